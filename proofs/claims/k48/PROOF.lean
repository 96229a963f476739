import PyProof.Rows.All
import Wide.All
import OpenK.AllK
import Wide.FinOn
import PySem.Str
import HandS.Exc
import HandS.HeadHook2
import HandS.HeadHook4
import HandS.Head0
import HandS.Head1
import HandS.Head2
import HandS.ForMost
import HandS.ExcCtx
import HandS.ExcOwn
import HandS.TryOnly
import HandS.Lambda
import KE.KeyNested
import KE.KDictKeyed
import HandS.TupAny
import HandS.TupMul
import HandS.Style
import HandS.IsInst
import HandS.Text
import KE.DataEq
import KE.LtData
import KE.DataCmp
import KE.SortData
import HandS.Conv
import KE.KTupSum
import HandS.SortInts
import HandS.More
import HandS.Deep
import HandS.HeadWalk
import HandS.Rev
import KE.GoesEnum
import KE.GoesMore
import HandS.EndTab
import HandS.NestedK
import HandS.HotCalls
import HandS.ExcIs
import HandS.Words
import KE.KStateDown
import Lean
import HandS.Ends
import HandS.Defaults
import HandS.HeadEnd
import PySem.Challenge.RW_treehands_k48_refusals_of_landing
set_option Elab.async false
set_option linter.all false
/-! A small language for the defs of a program, its data, and what its defs do: plain Lean. -/
namespace TT
open PySem (Str)

/-- data that nothing changes -/
inductive D where
  | non | bl (b : Bool) | int (i : Int) | str (x : Str)
  | tup (ds : List D) | lst (ds : List D) | rol (ds : List D) | dct (t : Nat) (ks vs : List D) | obj (c : Nat) (ks : List Nat) (vs : List D)
  deriving Inhabited

mutual
def D.beq : D → D → Bool
  | .non, .non => true
  | .bl a, .bl b => a == b
  | .int a, .int b => a == b
  | .str a, .str b => a == b
  | .tup a, .tup b => Ds.beq a b
  | .lst a, .lst b => Ds.beq a b
  | .rol a, .rol b => Ds.beq a b
  | .dct t a a', .dct u b b' => t == u && Ds.beq a b && Ds.beq a' b'
  | .obj c a a', .obj d b b' => c == d && a == b && Ds.beq a' b'
  | _, _ => false
def Ds.beq : List D → List D → Bool
  | [], [] => true
  | x :: xs, y :: ys => D.beq x y && Ds.beq xs ys
  | _, _ => false
end
mutual
theorem D.beq_refl : ∀ a : D, D.beq a a = true
  | .non => rfl
  | .bl a => by simp [D.beq]
  | .int a => by simp [D.beq]
  | .str a => by simp [D.beq]
  | .tup a => by simp [D.beq, Ds.beq_refl a]
  | .lst a => by simp [D.beq, Ds.beq_refl a]
  | .rol a => by simp [D.beq, Ds.beq_refl a]
  | .dct t a b => by simp [D.beq, Ds.beq_refl a, Ds.beq_refl b]
  | .obj c a b => by simp [D.beq, Ds.beq_refl b]
theorem Ds.beq_refl : ∀ a : List D, Ds.beq a a = true
  | [] => rfl
  | x :: xs => by simp [Ds.beq, D.beq_refl x, Ds.beq_refl xs]
end
mutual
theorem D.eq_of_beq : ∀ a b : D, D.beq a b = true → a = b
  | .non, b, h => by cases b <;> simp_all [D.beq]
  | .bl a, b, h => by cases b <;> simp_all [D.beq]
  | .int a, b, h => by cases b <;> simp_all [D.beq]
  | .str a, b, h => by cases b <;> simp_all [D.beq]
  | .tup a, b, h => by
    cases b with
    | tup b => exact congrArg D.tup (Ds.eq_of_beq a b (by simpa [D.beq] using h))
    | _ => simp [D.beq] at h
  | .lst a, b, h => by
    cases b with
    | lst b => exact congrArg D.lst (Ds.eq_of_beq a b (by simpa [D.beq] using h))
    | _ => simp [D.beq] at h
  | .rol a, b, h => by
    cases b with
    | rol b => exact congrArg D.rol (Ds.eq_of_beq a b (by simpa [D.beq] using h))
    | _ => simp [D.beq] at h
  | .dct t a a', b, h => by
    cases b with
    | dct u b b' =>
      simp only [D.beq, Bool.and_eq_true, beq_iff_eq] at h
      rw [h.1.1, Ds.eq_of_beq a b h.1.2, Ds.eq_of_beq a' b' h.2]
    | _ => simp [D.beq] at h
  | .obj c a a', b, h => by
    cases b with
    | obj d b b' =>
      simp only [D.beq, Bool.and_eq_true, beq_iff_eq] at h
      rw [h.1.1, h.1.2, Ds.eq_of_beq a' b' h.2]
    | _ => simp [D.beq] at h
theorem Ds.eq_of_beq : ∀ a b : List D, Ds.beq a b = true → a = b
  | [], b, h => by cases b <;> simp_all [Ds.beq]
  | x :: xs, b, h => by
    cases b with
    | nil => simp [Ds.beq] at h
    | cons y ys =>
      simp only [Ds.beq, Bool.and_eq_true] at h
      rw [D.eq_of_beq x y h.1, Ds.eq_of_beq xs ys h.2]
end
instance : DecidableEq D := fun a b =>
  if h : D.beq a b = true then .isTrue (D.eq_of_beq a b h) else .isFalse fun e => h (e ▸ D.beq_refl a)

/-- a value: data, or a thing of the store that may change -/
inductive W where
  | d (x : D) | loc (l : Nat)
  deriving Inhabited, DecidableEq
/-- what the store holds -/
inductive M where
  | lst (ds : List D) | dct (t : Nat) (ks vs : List D) | obj (c : Nat) (ks : List Nat) (vs : List D) | dead
  deriving Inhabited
abbrev Sto := List M
/-- how a piece of code ends: a value, an error of a class, or it is not told -/
inductive R (α : Type) where
  | ok (a : α) (s : Sto) | err (c : Nat) (s : Sto) | no
  deriving Inhabited
@[inline] def R.bind {α β : Type} (r : R α) (f : α → Sto → R β) : R β := match r with
  | .ok a s => f a s
  | .err c s => .err c s
  | .no => .no
/-- an error is not told of -/
def R.calm {α : Type} (r : R α) : R α := match r with
  | .err _ _ => .no
  | r => r
@[simp] theorem R.calm_ok {α : Type} (a : α) (s : Sto) : (R.ok a s).calm = .ok a s := rfl
@[simp] theorem R.bind_ok {α β : Type} (a : α) (s : Sto) (f : α → Sto → R β) : (R.ok a s).bind f = f a s := rfl
@[simp] theorem R.bind_err {α β : Type} (c : Nat) (s : Sto) (f : α → Sto → R β) : (R.err c s).bind f = .err c s := rfl
@[simp] theorem R.bind_no {α β : Type} (f : α → Sto → R β) : (R.no : R α).bind f = .no := rfl
theorem R.bind_assoc {α β γ : Type} (r : R α) (f : α → Sto → R β) (g : β → Sto → R γ) : (r.bind f).bind g = r.bind fun a s => (f a s).bind g := by cases r <;> rfl
def R.of {α : Type} (o : Option α) (s : Sto) : R α := match o with
  | some a => .ok a s
  | none => .no
@[simp] theorem R.of_some {α : Type} (a : α) (s : Sto) : R.of (some a) s = .ok a s := rfl
@[simp] theorem R.of_none {α : Type} (s : Sto) : (R.of none s : R α) = .no := rfl

/-- operators and built-ins, by values -/
inductive Op where
  | add | sub | mul | fdiv | mod | pow | neg
  | eq | ne | lt | le | gt | ge | isN | notN | isB | notB
  | inS | ninS | inD | ninD | inT | ninT
  | ix | dget
  | len | lenD | abs | int | sum | max1 | min1 | sorted | max2 | min2 | divmod | isTup | isCls (c : Nat)
  | list | tuple | listRev | tupleRev | all | any
  | append | pop | index | extend | count
  deriving Repr, DecidableEq

mutual
inductive E where
  | v (i : Nat) | k (d : D) | g (x : Nat) (d : D)
  | op (fz : Bool) (o : Op) (es : Es) | bm (fz : Bool) (o : Op) (a : E) (es : Es)
  | chain (o o' : Op) (a b c : E)
  | bop (isAnd : Bool) (es : Es) | not (a : E) | ife (c a b : E)
  | tup (es : Es) | lst (fz : Bool) (es : Es) | dic (fz : Bool) (t : Nat)
  | slc (fz : Bool) (a : E) (lo hi : Es) | rev (fz : Bool) (a : E)
  | attr (a : E) (f : Nat)
  | call (f : Nat) (es : Es) | meth (a : E) (m : Nat) (es : Es) | new (fz : Bool) (c : Nat) (es : Es) | new0 (c : Nat) | fz (a : E)
  | lc (fz : Bool) (own : List Nat) (tg : Tg) (it : It) (ifs : Es) (elt : E)
  | ask (e : E)
inductive Es where
  | nil | cons (e : E) (es : Es)
inductive Tg where
  | nm (i : Nat) | tp (is : List Nat)
inductive It where
  | seq (e : E) | txt (e : E) | rng1 (a : E) | rng2 (a b : E) | enm (a : E) | revs (a : E) | zip (a b : E)
end
mutual
inductive S where
  | asg (tg : Tg) (e : E)
  | par (is : List Nat) (es : Es)
  | sub (o i e : E) | dput (o i e : E) | fld (o : E) (f : Nat) (e : E)
  | ex (e : E) | ret (e : E) | retN
  | ite (c : E) (a b : Ss)
  | for (tg : Tg) (it : It) (kill : List Nat) (body : Ss)
  | whl (n : Nat) (c : E) (kill : List Nat) (body : Ss)
  | raise (c : Nat)
  | try1 (body : Ss) (c : Nat) (suite : Ss)
  | pass | brk | cnt
  | gfrz (i : Nat) | gdrop (i : Nat)
inductive Ss where
  | nil | cons (s : S) (r : Ss)
end
def Es.len : Es → Nat
  | .nil => 0
  | .cons _ r => r.len + 1
abbrev Env := List (Option W)
inductive Fl where
  | nx | brk | cnt | ret (w : W)
  deriving Inhabited

/-! ### values -/
/-- a fresh thing, or a value -/
inductive Vl where
  | w (w : W) | fl (ds : List D) | fd (t : Nat)
def fin (fz : Bool) (v : Vl) (s : Sto) : R W := match v with
  | .w x => .ok x s
  | .fl ds => if fz then .ok (.d (.lst ds)) s else .ok (.loc s.length) (s ++ [.lst ds])
  | .fd t => if fz then .ok (.d (.dct t [] [])) s else .ok (.loc s.length) (s ++ [.dct t [] []])
/-- a list or a tuple that is read -/
def seqOf (s : Sto) : W → Option (List D)
  | .d (.lst ds) => some ds
  | .d (.rol ds) => some ds
  | .d (.tup ds) => some ds
  | .loc l => match s[l]? with
    | some (.lst ds) => some ds
    | _ => none
  | _ => none
/-- a list that is read -/
def lstOf (s : Sto) : W → Option (List D)
  | .d (.lst ds) => some ds
  | .d (.rol ds) => some ds
  | .loc l => match s[l]? with
    | some (.lst ds) => some ds
    | _ => none
  | _ => none
/-- a list of the program's own making -/
def lstM (s : Sto) : W → Option (List D)
  | .d (.lst ds) => some ds
  | .loc l => match s[l]? with
    | some (.lst ds) => some ds
    | _ => none
  | _ => none
def tupOf : W → Option (List D)
  | .d (.tup ds) => some ds
  | _ => none
/-- as data, a list of the store read -/
def datOf (s : Sto) : W → Option D
  | .d x => some x
  | .loc l => match s[l]? with
    | some (.lst ds) => some (.lst ds)
    | _ => none
def dctOf (s : Sto) : W → Option (Nat × List D × List D)
  | .d (.dct t ks vs) => some (t, ks, vs)
  | .loc l => match s[l]? with
    | some (.dct t ks vs) => some (t, ks, vs)
    | _ => none
  | _ => none
def objOf (s : Sto) : W → Option (Nat × List Nat × List D)
  | .d (.obj c ks vs) => some (c, ks, vs)
  | .loc l => match s[l]? with
    | some (.obj c ks vs) => some (c, ks, vs)
    | _ => none
  | _ => none
def look {α β : Type} [DecidableEq α] (k : α) : List α → List β → Option β
  | a :: ks, b :: vs => if a = k then some b else look k ks vs
  | _, _ => none
def putKs {α : Type} [DecidableEq α] (k : α) (ks : List α) : List α := if k ∈ ks then ks else ks ++ [k]
def repVs {α β : Type} [DecidableEq α] (k : α) (v : β) : List α → List β → List β
  | a :: ks, b :: vs => (if a = k then v else b) :: repVs k v ks vs
  | _, _ => []
def putVs {α β : Type} [DecidableEq α] (k : α) (v : β) (ks : List α) (vs : List β) : List β := if k ∈ ks then repVs k v ks vs else vs ++ [v]
/-- of names that stand once each -/
def putN {β : Type} (k : Nat) (v : β) : List Nat → List β → List β
  | a :: ks, b :: vs => if a = k then v :: vs else b :: putN k v ks vs
  | _, _ => [v]
/-- the place of an index of any sign -/
def ixOf (n : Nat) (i : Int) : Option Nat := if 0 ≤ i then (if i < n then some i.toNat else none) else if -(n : Int) ≤ i then some (i + n).toNat else none
def atI {α : Type} (xs : List α) (i : Int) : Option α := (ixOf xs.length i).bind fun j => xs[j]?
def sIx (n d : Nat) : Option Int → Nat
  | none => d
  | some v => if v < 0 then (v + (n : Int)).toNat else min v.toNat n
def cut {α : Type} (xs : List α) (lo hi : Option Int) : List α :=
  (xs.drop (sIx xs.length 0 lo)).take (sIx xs.length xs.length hi - sIx xs.length 0 lo)
/-! numbers, texts, None, lists and tuples of such, n deep; with numbers, or with bools -/
mutual
def D.pl (b : Bool) : Nat → D → Bool
  | _, .non => true
  | _, .bl _ => b
  | _, .int _ => !b
  | _, .str _ => true
  | n + 1, .tup ds => Ds.pl b n ds
  | n + 1, .lst ds => Ds.pl b n ds
  | _, _ => false
def Ds.pl (b : Bool) : Nat → List D → Bool
  | _, [] => true
  | n, d :: ds => D.pl b n d && Ds.pl b n ds
end
/-- may the two be held against one another -/
def fair (a b : D) : Bool := (D.pl false 12 a && D.pl false 12 b) || (D.pl true 12 a && D.pl true 12 b)
def pyEq (a b : D) : Option Bool := if fair a b then some (decide (a = b)) else none
/-- an instance held against a text -/
def objStr : D → D → Bool
  | .obj _ _ _, .str _ => true
  | _, _ => false
def pyEqO (a b : D) : Option Bool := if fair a b || objStr a b then some (decide (a = b)) else none
/-- is a among them -/
def pyIn (a : D) (ds : List D) : Option Bool :=
  if (D.pl false 12 a && Ds.pl false 12 ds) || (D.pl true 12 a && Ds.pl true 12 ds) then some (decide (a ∈ ds)) else none
mutual
/-- a < b of numbers, of tuples of such -/
def D.lt : D → D → Option Bool
  | .int a, .int b => some (decide (a < b))
  | .tup a, .tup b => Ds.lt a b
  | _, _ => none
def Ds.lt : List D → List D → Option Bool
  | [], [] => some false
  | [], _ :: _ => some true
  | _ :: _, [] => some false
  | x :: xs, y :: ys => if x = y then Ds.lt xs ys else D.lt x y
end
mutual
/-- of one shape as far as both go -/
def D.al : Nat → D → D → Bool
  | _, .int _, .int _ => true
  | n + 1, .tup a, .tup b => Ds.al n a b
  | _, _, _ => false
def Ds.al : Nat → List D → List D → Bool
  | _, [], _ => true
  | _, _ :: _, [] => true
  | n, x :: xs, y :: ys => D.al n x y && Ds.al n xs ys
end
def dInts : List D → Option (List Int)
  | [] => some []
  | .int i :: r => (dInts r).map (i :: ·)
  | _ => none
def bls : List D → Option (List Bool)
  | [] => some []
  | .bl i :: r => (bls r).map (i :: ·)
  | _ => none
mutual
/-- no text in it -/
def D.ns : D → Bool
  | .non => true
  | .bl _ => true
  | .int _ => true
  | .tup ds => Ds.ns ds
  | .lst ds => Ds.ns ds
  | _ => false
def Ds.ns : List D → Bool
  | [] => true
  | d :: ds => D.ns d && Ds.ns ds
end
def flat : D → Bool
  | .non | .bl _ | .int _ | .str _ => true
  | _ => false
/-- what may be a dict's key here: numbers and texts; or tuples of them -/
def key1 : D → Bool
  | .int _ | .str _ => true
  | _ => false
def keyT : D → Bool
  | .tup ds => ds.all key1
  | _ => false
mutual
/-- numbers, None, tuples of such -/
def D.kn : Nat → D → Bool
  | _, .non => true
  | _, .int _ => true
  | n + 1, .tup ds => Ds.kn n ds
  | _, _ => false
def Ds.kn : Nat → List D → Bool
  | _, [] => true
  | n, d :: ds => D.kn n d && Ds.kn n ds
end
/-- .. tuples, tuples within -/
def keyN : D → Bool
  | .tup ds => Ds.kn 7 ds
  | _ => false
/-- may the key be asked of a dict of this kind; 3: an empty one whose kind is open -/
def keysOk (t : Nat) (k : D) : Bool := match t with
  | 0 => key1 k
  | 1 => keyT k
  | 2 => keyN k
  | 3 => key1 k || keyN k
  | _ => false
/-- the kind behind the first key -/
def kindK (t : Nat) (k : D) : Nat := if t = 3 then (if key1 k then 0 else 2) else t
def big (i : Int) : Bool := decide (i.natAbs < 2 ^ 64)
def small (n : Nat) : Bool := decide (n ≤ 10000)
def int1 (i : Int) (s : Sto) : R Vl := .ok (.w (.d (.int i))) s
def bl1 (b : Bool) (s : Sto) : R Vl := .ok (.w (.d (.bl b))) s
def d1 (d : D) (s : Sto) : R Vl := .ok (.w (.d d)) s
def addS (x y : W) (s : Sto) : R Vl := match x, y with
  | .d (.int i), .d (.int j) => int1 (i + j) s
  | .d (.str x), .d (.str y) => if small x.length && small y.length then d1 (.str (x ++ y)) s else .no
  | .d (.tup x), .d (.tup y) => if small x.length && small y.length then d1 (.tup (x ++ y)) s else .no
  | x, y => match lstM s x, lstM s y with
    | some a, some b => if small a.length && small b.length then .ok (.fl (a ++ b)) s else .no
    | _, _ => .no
def mulS (x y : W) (s : Sto) : R Vl := match x, y with
  | .d (.int i), .d (.int j) => if big i || big j then int1 (i * j) s else .no
  | .d (.tup x), .d (.int j) => if x ≠ [] ∧ x.length ≤ 1000 ∧ 2 ≤ j ∧ j ≤ 1000 then d1 (.tup (List.replicate j.toNat x).flatten) s else .no
  | x, .d (.int j) => match lstM s x with
    | some a => if small a.length && decide (0 ≤ j) && decide (j ≤ 1000) then .ok (.fl (List.replicate j.toNat a).flatten) s else .no
    | none => .no
  | _, _ => .no
def int2 (f : Int → Int → Option D) (x y : W) (s : Sto) : R Vl := match x, y with
  | .d (.int i), .d (.int j) => (R.of (f i j) s).bind d1
  | _, _ => .no
def eqS (neg : Bool) (x y : W) (s : Sto) : R Vl := match datOf s x, datOf s y with
  | some a, some b => (R.of (if neg then pyEq a b else pyEqO a b) s).bind fun r s => bl1 (if neg then !r else r) s
  | _, _ => .no
def inSq (neg : Bool) (x y : W) (s : Sto) : R Vl := match x, seqOf s y with
  | .d a, some ds => (R.of (pyIn a ds) s).bind fun r s => bl1 (if neg then !r else r) s
  | _, _ => .no
def inDc (neg : Bool) (x y : W) (s : Sto) : R Vl := match x, dctOf s y with
  | .d a, some (t, ks, _) => if keysOk t a then bl1 (if neg then !decide (a ∈ ks) else decide (a ∈ ks)) s else .no
  | _, _ => .no
def inTx (neg : Bool) (x y : W) (s : Sto) : R Vl := match x, y with
  | .d (.str x), .d (.str y) => match x.cps.toList with
    | [c] => bl1 (if neg then !decide (c ∈ y.cps.toList) else decide (c ∈ y.cps.toList)) s
    | _ => .no
  | _, _ => .no
def isNS (neg : Bool) (x y : W) (s : Sto) : R Vl := match y with
  | .d .non => bl1 (if neg then !decide (x = .d .non) else decide (x = .d .non)) s
  | _ => .no
def isBS (neg : Bool) (x y : W) (s : Sto) : R Vl := match x, y with
  | .d (.bl a), .d (.bl b) => bl1 (if neg then !decide (a = b) else decide (a = b)) s
  | _, _ => .no
def ixS (x y : W) (s : Sto) : R Vl := match x, y with
  | .d (.str z), .d (.int i) => if small z.length then (R.of (atI z.cps.toList i) s).bind fun c s => d1 (.str ⟨#[c]⟩) s else .no
  | x, .d (.int i) => match seqOf s x with
    | some ds => (R.of (atI ds i) s).bind d1
    | none => .no
  | _, _ => .no
def dgetS (x y : W) (s : Sto) : R Vl := match dctOf s x, y with
  | some (t, ks, vs), .d k => if keysOk t k then (R.of (look k ks vs) s).bind d1 else .no
  | _, _ => .no
def lenS (x : W) (s : Sto) : R Vl := match x with
  | .d (.str z) => if small z.length then int1 z.length s else .no
  | x => match seqOf s x with
    | some ds => int1 ds.length s
    | none => .no
def lenDS (x : W) (s : Sto) : R Vl := match dctOf s x with
  | some (_, ks, _) => int1 ks.length s
  | none => .no
/-- < of numbers, of tuples of such -/
def ltS (x y : W) (s : Sto) : R Vl := match x, y with
  | .d (.int i), .d (.int j) => bl1 (decide (i < j)) s
  | .d (.tup a), .d (.tup b) => if Ds.al 7 a b && Ds.kn 7 a && Ds.kn 7 b then (R.of (Ds.lt a b) s).bind bl1 else .no
  | _, _ => .no
def absS (x : W) (s : Sto) : R Vl := match x with
  | .d (.int i) => int1 (if i < 0 then -i else i) s
  | _ => .no
def negS (x : W) (s : Sto) : R Vl := match x with
  | .d (.int i) => int1 (-i) s
  | _ => .no
def intS (x : W) (s : Sto) : R Vl := match x with
  | .d (.bl b) => int1 (if b then 1 else 0) s
  | .d (.int i) => int1 i s
  | _ => .no
def sumS (x : W) (s : Sto) : R Vl := match seqOf s x with
  | some ds => (R.of (dInts ds) s).bind fun r s => int1 r.sum s
  | none => .no
def maxS (x : W) (s : Sto) : R Vl := match lstOf s x with
  | some ds => match dInts ds with
    | some (n :: ns) => int1 (ns.foldl max n) s
    | _ => .no
  | none => .no
def minS (x : W) (s : Sto) : R Vl := match lstOf s x with
  | some ds => match dInts ds with
    | some (n :: ns) => int1 (ns.foldl min n) s
    | _ => .no
  | none => .no
def ins1 (i : Int) : List Int → List Int
  | [] => [i]
  | j :: r => if i ≤ j then i :: j :: r else j :: ins1 i r
def isort (ns : List Int) : List Int := ns.foldr ins1 []
def leD (a b : D) : Bool := !(D.lt b a == some true)
def isTupD : D → Bool
  | .tup _ => true
  | _ => false
def isTupNe : D → Bool
  | .tup (_ :: _) => true
  | _ => false
/-- an empty tuple first, or none is empty -/
def tupsK : List D → Bool
  | .tup [] :: _ => true
  | ds => ds.all isTupNe
/-- tuples that may be held against one another -/
def tupsOk (ds : List D) : Bool := tupsK ds && (ds.all (fun a => isTupD a && D.kn 8 a && ds.all fun b => D.al 8 a b && (D.lt a b).isSome) && small ds.length)
/-- sorted, of numbers, of tuples -/
def sortedS (x : W) (s : Sto) : R Vl := match lstOf s x with
  | some ds => match dInts ds with
    | some ns => .ok (.fl ((isort ns).map .int)) s
    | none => if tupsOk ds then .ok (.fl (ds.mergeSort leD)) s else .no
  | none => .no
def isTupS (x : W) (s : Sto) : R Vl := match x with
  | .d (.tup _) => bl1 true s
  | .d (.int _) => bl1 false s
  | _ => .no
def isClsS (c : Nat) (x : W) (s : Sto) : R Vl := match x with
  | .d (.obj k _ _) => bl1 (decide (k = c)) s
  | .d (.str _) => bl1 false s
  | .d .non => bl1 false s
  | .d (.tup _) => bl1 false s
  | _ => .no
def listS (x : W) (s : Sto) : R Vl := match seqOf s x with
  | some ds => .ok (.fl ds) s
  | none => .no
def tupleS (x : W) (s : Sto) : R Vl := match x with
  | .d (.tup ds) => d1 (.tup ds) s
  | x => match lstOf s x with
    | some ds => d1 (.tup ds) s
    | none => .no
def revS (tp : Bool) (x : W) (s : Sto) : R Vl := match lstOf s x with
  | some ds => if tp then d1 (.tup ds.reverse) s else .ok (.fl ds.reverse) s
  | none => .no
def allS (al : Bool) (x : W) (s : Sto) : R Vl := match lstOf s x with
  | some ds => (R.of (bls ds) s).bind fun r s => bl1 (if al then r.all id else r.any id) s
  | none => .no
def appS (x y : W) (s : Sto) : R Vl := match x, y with
  | .loc l, .d d => match s[l]? with
    | some (.lst ds) => if small ds.length then d1 .non (s.set l (.lst (ds ++ [d]))) else .no
    | _ => .no
  | _, _ => .no
def popS (x : W) (s : Sto) : R Vl := match x with
  | .loc l => match s[l]? with
    | some (.lst ds) => (R.of ds.getLast? s).bind fun d s => d1 d (s.set l (.lst ds.dropLast))
    | _ => .no
  | _ => .no
def extS (x y : W) (s : Sto) : R Vl := match x, lstM s y with
  | .loc l, some es => match s[l]? with
    | some (.lst ds) => if small ds.length && small es.length then d1 .non (s.set l (.lst (ds ++ es))) else .no
    | _ => .no
  | _, _ => .no
def indexS (x y : W) (s : Sto) : R Vl := match lstOf s x, y with
  | some ds, .d d => if (pyIn d ds).isSome && decide (d ∈ ds) && ((flat d && ds.all flat) || (D.ns d && Ds.ns ds)) then int1 (ds.idxOf d) s else .no
  | _, _ => .no
def countS (x y : W) (s : Sto) : R Vl := match lstOf s x, y with
  | some ds, .d d => if (pyIn d ds).isSome && flat d && ds.all flat then int1 (ds.countP fun z => decide (z = d)) s else .no
  | _, _ => .no
/-- is the thing of the type whose method is meant -/
def recvOk (o : Op) (x : W) (s : Sto) : Bool := match o with
  | .append | .pop | .index | .extend | .count => (lstOf s x).isSome
  | _ => false
def opSem (o : Op) (ws : List W) (s : Sto) : R Vl := match ws with
  | [x] => match o with
    | .neg => negS x s
    | .len => lenS x s
    | .lenD => lenDS x s
    | .abs => absS x s
    | .int => intS x s
    | .sum => sumS x s
    | .max1 => maxS x s
    | .min1 => minS x s
    | .sorted => sortedS x s
    | .isTup => isTupS x s
    | .isCls c => isClsS c x s
    | .list => listS x s
    | .tuple => tupleS x s
    | .listRev => revS false x s
    | .tupleRev => revS true x s
    | .all => allS true x s
    | .any => allS false x s
    | .pop => popS x s
    | _ => .no
  | [x, y] => match o with
    | .add => addS x y s
    | .sub => int2 (fun i j => some (.int (i - j))) x y s
    | .mul => mulS x y s
    | .fdiv => int2 (fun i j => if 0 < j ∧ j < 1073741824 then some (.int (i / j)) else none) x y s
    | .mod => int2 (fun i j => if 0 < j then some (.int (i % j)) else none) x y s
    | .pow => int2 (fun i j => if 0 ≤ j ∧ j ≤ 1000 ∧ big i = true then some (.int (i ^ j.toNat)) else none) x y s
    | .eq => eqS false x y s
    | .ne => eqS true x y s
    | .lt => ltS x y s
    | .le => int2 (fun i j => some (.bl (decide (i ≤ j)))) x y s
    | .gt => int2 (fun i j => some (.bl (decide (j < i)))) x y s
    | .ge => int2 (fun i j => some (.bl (decide (j ≤ i)))) x y s
    | .isN => isNS false x y s
    | .notN => isNS true x y s
    | .isB => isBS false x y s
    | .notB => isBS true x y s
    | .inS => inSq false x y s
    | .ninS => inSq true x y s
    | .inD => inDc false x y s
    | .ninD => inDc true x y s
    | .inT => inTx false x y s
    | .ninT => inTx true x y s
    | .ix => ixS x y s
    | .dget => dgetS x y s
    | .max2 => int2 (fun i j => some (.int (if j > i then j else i))) x y s
    | .min2 => int2 (fun i j => some (.int (if j < i then j else i))) x y s
    | .divmod => int2 (fun i j => if 0 < j ∧ j < 1073741824 then some (.tup [.int (i / j), .int (i % j)]) else none) x y s
    | .append => appS x y s
    | .extend => extS x y s
    | .index => indexS x y s
    | .count => countS x y s
    | _ => .no
  | _ => .no
/-- the operators of a chain of comparisons -/
def coSem (o : Op) (x y : W) : Option Bool := match o, x, y with
  | .lt, .d (.int i), .d (.int j) => some (decide (i < j))
  | .le, .d (.int i), .d (.int j) => some (decide (i ≤ j))
  | _, _, _ => none
def asB : W → Option Bool
  | .d (.bl b) => some b
  | _ => none
def asD : W → Option D
  | .d x => some x
  | _ => none
def asI : W → Option Int
  | .d (.int i) => some i
  | _ => none
def asDs : List W → Option (List D)
  | [] => some []
  | .d x :: r => (asDs r).map (x :: ·)
  | _ => none
def killE (ks : List Nat) (e : Env) : Env := ks.foldl (fun e i => e.set i none) e
def setAll : List Nat → List D → Env → Env
  | i :: is, d :: ds, e => setAll is ds (e.set i (some (.d d)))
  | _, _, e => e
/-- target = value -/
def tgSem (tg : Tg) (w : W) (e : Env) : Option Env := match tg with
  | .nm i => some (e.set i (some w))
  | .tp is => match tupOf w with
    | some ds => if is.length = ds.length then some (setAll is ds e) else none
    | none => none
/-- the things that are walked, and where they stand, if that may change -/
abbrev Its := List D × Option Nat
def still (g : Its) (s : Sto) : Bool := match g.2 with
  | none => true
  | some l => match s[l]? with
    | some (.lst ds) => decide (ds = g.1)
    | _ => false
def enumD : Nat → List D → List D
  | _, [] => []
  | n, d :: ds => .tup [.int n, d] :: enumD (n + 1) ds
def walkOf (s : Sto) (w : W) : Option Its := match w with
  | .d (.lst ds) => some (ds, none)
  | .d (.rol ds) => some (ds, none)
  | .d (.tup ds) => some (ds, none)
  | .loc l => match s[l]? with
    | some (.lst ds) => some (ds, some l)
    | _ => none
  | _ => none
def rngD (i j : Int) : List D := (List.range (j - i).toNat).map fun (k : Nat) => .int (i + (k : Int))
def okR (i : Int) : Bool := decide (-(2 ^ 62) ≤ i) && decide (i < 2 ^ 62)

/-! ### a program -/
structure Fn where
  np : Nat
  ns : Nat
  /-- what is given back stays open to change -/
  kp : Bool
  body : Ss
structure Prog where
  fns : List Fn
  /-- class, method, def -/
  meths : List (Nat × Nat × Nat)
  /-- class, its __init__ -/
  inits : List (Nat × Nat)
  /-- classes of errors: the word for each -/
  words : List (Nat × Str)
def Prog.meth (P : Prog) (c m : Nat) : Option Nat := (P.meths.find? fun t => t.1 == c && t.2.1 == m).map (·.2.2)
def Prog.init (P : Prog) (c : Nat) : Option Nat := P.inits.lookup c
abbrev Fun := Nat → List W → Sto → R W
structure Cxt where
  P : Prog
  /-- what a def does, so many calls deeper -/
  F : Nat → Fun
def Cxt.down (c : Cxt) : Cxt := ⟨c.P, fun i => c.F (i + 2)⟩

/-- the loop of a list comprehension; its list stands at n -/
def lcL (f : D → Sto → R (Option D)) (g : Its) (n : Nat) : List D → Sto → R Unit
  | [], s => if still g s then .ok () s else .no
  | x :: xs, s => if still g s then (f x s).bind fun o s' => match o with
    | some y => match s'[n]? with
      | some (.lst acc) => if small acc.length then lcL f g n xs (s'.set n (.lst (acc ++ [y]))) else .no
      | _ => .no
    | none => lcL f g n xs s' else .no
/-- one turn of it -/
def lcF (tg : Tg) (t : Env → Sto → R Bool) (x : Env → Sto → R W) (e : Env) (d : D) (s : Sto) : R (Option D) := match tgSem tg (.d d) e with
  | some e' => ((t e' s).bind fun b s => if b then (x e' s).bind fun w s => (R.of (asD w) s).bind fun y s => .ok (some y) s else .ok none s).calm
  | none => .no
/-- one turn of a for -/
def forF (tg : Tg) (kill : List Nat) (b : Env → Sto → R (Fl × Env)) (x : D) (e : Env) (s : Sto) : R (Fl × Env) := match tgSem tg (.d x) e with
  | some e' => (b e' s).bind fun r s => .ok (r.1, killE kill r.2) s
  | none => .no
def whlF (kill : List Nat) (b : Env → Sto → R (Fl × Env)) (e : Env) (s : Sto) : R (Fl × Env) := (b e s).bind fun r s => .ok (r.1, killE kill r.2) s
/-- the loop of a for -/
def forL (f : D → Env → Sto → R (Fl × Env)) (g : Its) : List D → Env → Sto → R (Fl × Env)
  | [], e, s => if still g s then .ok (.nx, e) s else .no
  | x :: xs, e, s => if still g s then (f x e s).bind fun r s' => match r.1 with
    | .nx => forL f g xs r.2 s'
    | .cnt => forL f g xs r.2 s'
    | .brk => .ok (.nx, r.2) s'
    | .ret w => .ok (.ret w, r.2) s' else .no
def whlL (c : Env → Sto → R W) (f : Env → Sto → R (Fl × Env)) : Nat → Env → Sto → R (Fl × Env)
  | 0, _, _ => .no
  | n + 1, e, s => (c e s).bind fun w s1 => match asB w with
    | some true => (f e s1).bind fun r s' => match r.1 with
      | .nx => whlL c f n r.2 s'
      | .cnt => whlL c f n r.2 s'
      | .brk => .ok (.nx, r.2) s'
      | .ret w => .ok (.ret w, r.2) s'
    | some false => .ok (.nx, e) s1
    | none => .no
/-- what a call leaves: the callee's own things are gone, but one that is given back to be changed -/
def leave (kp : Bool) (n : Nat) (w : W) (s : Sto) : R W := match w with
  | .d x => .ok (.d x) (s.take n)
  | .loc l => if l < n then .ok (.loc l) (s.take n) else match s[l]? with
    | some (.lst ds) => if kp then .ok (.loc n) (s.take n ++ [.lst ds]) else .ok (.d (.lst ds)) (s.take n)
    | some (.dct t ks vs) => if kp then .ok (.loc n) (s.take n ++ [.dct t ks vs]) else .ok (.d (.dct t ks vs)) (s.take n)
    | some (.obj c ks vs) => if kp then .ok (.loc n) (s.take n ++ [.obj c ks vs]) else .ok (.d (.obj c ks vs)) (s.take n)
    | _ => .no
/-- a thing of the store frozen; the last one leaves the store -/
def freeze (s : Sto) (l : Nat) : Option (D × Sto) := match s[l]? with
  | some (.lst ds) => some (.lst ds, if l + 1 = s.length then s.dropLast else s.set l .dead)
  | some (.dct t ks vs) => some (.dct t ks vs, if l + 1 = s.length then s.dropLast else s.set l .dead)
  | some (.obj c ks vs) => some (.obj c ks vs, if l + 1 = s.length then s.dropLast else s.set l .dead)
  | _ => none
/-- what a list comprehension leaves -/
def finC (fz : Bool) (n : Nat) (s : Sto) : R W :=
  if fz then (if s.length = n + 1 then (match s[n]? with
    | some (.lst ds) => .ok (.d (.lst ds)) s.dropLast
    | _ => .no) else .no) else .ok (.loc n) s
def unName (l : Nat) (e : Env) : Env := e.map fun w => if w = some (.loc l) then none else w

mutual
def evE (c : Cxt) : E → Env → Sto → R W
  | .v i, e, s => match e[i]? with
    | some (some w) => .ok w s
    | _ => .no
  | .k d, _, s => .ok (.d d) s
  | .g _ d, _, s => .ok (.d d) s
  | .op fz o es, e, s => (evEs c es e s).bind fun ws s => (opSem o ws s).bind fun v s => fin fz v s
  | .bm fz o a es, e, s => (evE c a e s).bind fun x s => if recvOk o x s then (evEs c es e s).bind fun ws s => (opSem o (x :: ws) s).bind fun v s => fin fz v s else .no
  | .chain o o' a b d, e, s => (evE c a e s).bind fun x s => (evE c b e s).bind fun y s => match coSem o x y with
    | some true => (evE c d e s).bind fun z s => (R.of (coSem o' y z) s).bind fun r s => .ok (.d (.bl r)) s
    | some false => .ok (.d (.bl false)) s
    | none => .no
  | .bop a es, e, s => evB c a es e s
  | .not a, e, s => (evE c a e s).bind fun x s => (R.of (asB x) s).bind fun r s => .ok (.d (.bl (!r))) s
  | .ife t a b, e, s => (evE c t e s).bind fun x s => match asB x with
    | some true => evE c a e s
    | some false => evE c b e s
    | none => .no
  | .tup es, e, s => (evEs c es e s).bind fun ws s => (R.of (asDs ws) s).bind fun ds s => .ok (.d (.tup ds)) s
  | .lst fz es, e, s => (evEs c es e s).bind fun ws s => (R.of (asDs ws) s).bind fun ds s => fin fz (.fl ds) s
  | .dic fz t, _, s => fin fz (.fd t) s
  | .slc fz a lo hi, e, s => (evE c a e s).bind fun x s => (evO c lo e s).bind fun l s => (evO c hi e s).bind fun h s => match x with
    | .d (.tup ds) => .ok (.d (.tup (cut ds l h))) s
    | .d (.str z) => if small z.length then .ok (.d (.str ⟨(cut z.cps.toList l h).toArray⟩)) s else .no
    | _ => match lstM s x with
      | some ds => fin fz (.fl (cut ds l h)) s
      | none => .no
  | .rev fz a, e, s => (evE c a e s).bind fun x s => match x with
    | .d (.tup ds) => .ok (.d (.tup ds.reverse)) s
    | _ => match lstM s x with
      | some ds => fin fz (.fl ds.reverse) s
      | none => .no
  | .attr a f, e, s => (evE c a e s).bind fun x s => match objOf s x with
    | some (_, ks, vs) => (R.of (look f ks vs) s).bind fun r s => .ok (.d r) s
    | none => .no
  | .call f es, e, s => (evEs c es e s).bind fun ws s => c.F 0 f ws s
  | .meth a m es, e, s => (evE c a e s).bind fun x s => match objOf s x with
    | some (cl, _, _) => match c.P.meth cl m with
      | some f => (evEs c es e s).bind fun ws s => c.F 0 f (x :: ws) s
      | none => .no
    | none => .no
  | .new fz cl es, e, s => match c.P.init cl with
    | some f => (evEs c es e s).bind fun ws s => (c.F 1 f (.loc s.length :: ws) (s ++ [.obj cl [] []])).bind fun w s' => match w with
      | .d .non => if fz then (if s'.length = s.length + 1 then (match s'[s.length]? with
          | some (.obj c' ks vs) => .ok (.d (.obj c' ks vs)) s'.dropLast
          | _ => .no) else .no) else .ok (.loc s.length) s'
      | _ => .no
    | none => .no
  | .new0 cl, _, s => .ok (.d (.obj cl [] [])) s
  | .fz a, e, s => (evE c a e s).bind fun w s' => match w with
    | .d x => .ok (.d x) s'
    | .loc l => if s.length ≤ l ∧ l + 1 = s'.length then (match freeze s' l with
      | some (d, s'') => .ok (.d d) s''
      | none => .no) else .no
  | .lc fz own tg it ifs elt, e, s => (evI c it e s).bind fun g s =>
      (lcL (lcF tg (fun e s => evC c ifs e s) (fun e s => evE c elt e s) (killE own e)) g s.length g.1 (s ++ [.lst []])).bind fun _ s' => finC fz s.length s'
  | .ask a, e, s => match evE c.down a e s with
    | .ok w s => .ok w s
    | .err x s => (R.of (c.P.words.lookup x) s).bind fun z s => .ok (.d (.str z)) s
    | .no => .no
def evEs (c : Cxt) : Es → Env → Sto → R (List W)
  | .nil, _, s => .ok [] s
  | .cons a r, e, s => (evE c a e s).bind fun w s => (evEs c r e s).bind fun ws s => .ok (w :: ws) s
/-- and, or -/
def evB (c : Cxt) : Bool → Es → Env → Sto → R W
  | _, .nil, _, _ => .no
  | _, .cons a .nil, e, s => (evE c a e s).bind fun x s => (R.of (asB x) s).bind fun r s => .ok (.d (.bl r)) s
  | q, .cons a (.cons b r), e, s => (evE c a e s).bind fun x s => match asB x with
    | some t => if t = q then evB c q (.cons b r) e s else .ok (.d (.bl t)) s
    | none => .no
/-- a slice's part -/
def evO (c : Cxt) : Es → Env → Sto → R (Option Int)
  | .nil, _, s => .ok none s
  | .cons a _, e, s => (evE c a e s).bind fun x s => (R.of (asI x) s).bind fun r s => .ok (some r) s
/-- a comprehension's test -/
def evC (c : Cxt) : Es → Env → Sto → R Bool
  | .nil, _, s => .ok true s
  | .cons a _, e, s => (evE c a e s).bind fun x s => R.of (asB x) s
def evI (c : Cxt) : It → Env → Sto → R Its
  | .seq a, e, s => (evE c a e s).bind fun x s => R.of (walkOf s x) s
  | .txt a, e, s => (evE c a e s).bind fun x s => match x with
    | .d (.str z) => .ok (z.cps.toList.map fun c => .str ⟨#[c]⟩, none) s
    | _ => .no
  | .rng1 a, e, s => (evE c a e s).bind fun x s => match asI x with
    | some j => if okR j then .ok (rngD 0 j, none) s else .no
    | none => .no
  | .rng2 a b, e, s => (evE c a e s).bind fun x s => (evE c b e s).bind fun y s => match asI x, asI y with
    | some i, some j => if okR i && okR j then .ok (rngD i j, none) s else .no
    | _, _ => .no
  | .enm a, e, s => (evE c a e s).bind fun x s => match x with
    | .d (.lst ds) => .ok (enumD 0 ds, none) s
    | .d (.tup ds) => .ok (enumD 0 ds, none) s
    | _ => .no
  | .revs a, e, s => (evE c a e s).bind fun x s => match x with
    | .d (.lst ds) => .ok (ds.reverse, none) s
    | .d (.tup ds) => .ok (ds.reverse, none) s
    | _ => .no
  | .zip a b, e, s => (evE c a e s).bind fun x s => (evE c b e s).bind fun y s => match x, y with
    | .d p, .d q => match seqOf s (.d p), seqOf s (.d q) with
      | some ds, some es => .ok ((ds.zip es).map fun t => .tup [t.1, t.2], none) s
      | _, _ => .no
    | _, _ => .no
end
mutual
def evS (c : Cxt) (n : Nat) : S → Env → Sto → R (Fl × Env)
  | .asg tg a, e, s => (evE c a e s).bind fun w s => (R.of (tgSem tg w e) s).bind fun e' s => .ok (.nx, e') s
  | .par is es, e, s => (evEs c es e s).bind fun ws s => if is.length = ws.length then .ok (.nx, (is.zip ws).foldl (fun e p => e.set p.1 (some p.2)) e) s else .no
  | .sub o i a, e, s => (evE c a e s).bind fun w s => (evE c o e s).bind fun x s => (evE c i e s).bind fun y s => match x, asI y, asD w with
    | .loc l, some j, some d => match s[l]? with
      | some (.lst ds) => match ixOf ds.length j with
        | some k => .ok (.nx, e) (s.set l (.lst (ds.set k d)))
        | none => .no
      | _ => .no
    | _, _, _ => .no
  | .dput o i a, e, s => (evE c a e s).bind fun w s => (evE c o e s).bind fun x s => (evE c i e s).bind fun y s => match x, asD y, asD w with
    | .loc l, some k, some d => match s[l]? with
      | some (.dct t ks vs) => if keysOk t k && small ks.length then .ok (.nx, e) (s.set l (.dct (kindK t k) (putKs k ks) (putVs k d ks vs))) else .no
      | _ => .no
    | _, _, _ => .no
  | .fld o f a, e, s => (evE c a e s).bind fun w s => (evE c o e s).bind fun x s => match x, asD w with
    | .loc l, some d => match s[l]? with
      | some (.obj cl ks vs) => if ks.length < 900 then .ok (.nx, e) (s.set l (.obj cl (putKs f ks) (putN f d ks vs))) else .no
      | _ => .no
    | _, _ => .no
  | .ex a, e, s => (evE c a e s).bind fun _ s => .ok (.nx, e) s
  | .ret a, e, s => (evE c a e s).bind fun w s => .ok (.ret w, e) s
  | .retN, e, s => .ok (.ret (.d .non), e) s
  | .ite t a b, e, s => (evE c t e s).bind fun x s => match asB x with
    | some true => evSs c n a e s
    | some false => evSs c n b e s
    | none => .no
  | .for tg it kill body, e, s => (evI c it e s).bind fun g s => forL (forF tg kill fun e s' => evSs c s.length body e s') g g.1 e s
  | .whl m t kill body, e, s => whlL (fun e s => evE c t e s) (whlF kill fun e s' => evSs c s.length body e s') m e s
  | .raise x, _, s => .err x s
  | .try1 body x suite, e, s => match evSs c n body e s with
    | .ok r s => .ok r s
    | .err y s => if y = x then evSs c n suite (e.map fun _ => none) s else .no
    | .no => .no
  | .pass, e, s => .ok (.nx, e) s
  | .brk, e, s => .ok (.brk, e) s
  | .cnt, e, s => .ok (.cnt, e) s
  | .gfrz i, e, s => match e[i]? with
    | some (some (.loc l)) => if n ≤ l then match freeze s l with
      | some (d, s') => .ok (.nx, (unName l e).set i (some (.d d))) s'
      | none => .no else .no
    | _ => .no
  | .gdrop i, e, s => match e[i]? with
    | some (some (.loc l)) => if n ≤ l ∧ l + 1 = s.length then .ok (.nx, unName l e) s.dropLast else .no
    | _ => .no
def evSs (c : Cxt) (n : Nat) : Ss → Env → Sto → R (Fl × Env)
  | .nil, e, s => .ok (.nx, e) s
  | .cons a r, e, s => (evS c n a e s).bind fun q s => match q.1 with
    | .nx => evSs c n r q.2 s
    | _ => .ok q s
end
/-- a def called -/
def runFn (c : Cxt) (fn : Fn) (ws : List W) (s : Sto) : R W :=
  if ws.length = fn.np ∧ fn.np ≤ fn.ns then match evSs c s.length fn.body (ws.map some ++ List.replicate (fn.ns - fn.np) none) s with
    | .ok (.ret w, _) s' => leave fn.kp s.length w s'
    | .ok (.nx, _) s' => .ok (.d .non) (s'.take s.length)
    | .ok _ _ => .no
    | .err x s' => .err x (s'.take s.length)
    | .no => .no
  else .no
def runAll (P : Prog) (F : Nat → Fun) : Fun := fun f ws s => match P.fns[f]? with
  | some fn => runFn ⟨P, F⟩ fn ws s
  | none => .no
/-- what the defs do, so many calls deep; and the same of fewer -/
def PhiA (P : Prog) : Nat → Nat → Fun
  | 0, _ => fun _ _ _ => .no
  | k + 1, 0 => runAll P (PhiA P k)
  | k + 1, i + 1 => PhiA P k i
def Phi (P : Prog) (k : Nat) : Fun := PhiA P k 0
end TT

set_option maxRecDepth 100000
/-! What the head is asked: the definitions. -/
namespace TS
open PySem PySem.Spec PyProof.Rows L2
/-- the names of a program: its classes, attributes, methods, its errors -/
structure Nm where
  cs : List Str
  as : List Str
  ms : List Str
  es : List Str
/-- the name of a number; beyond the list a text that is no name -/
def nmAt (k : Nat) (l : List Str) (i : Nat) : Str := match l[i]? with
  | some x => x
  | none => ⟨#[k, i]⟩
def Nm.cn (N : Nm) (c : Nat) : Str := nmAt 2000001 N.cs c
def Nm.an (N : Nm) (c : Nat) : Str := nmAt 2000002 N.as c
def Nm.mn (N : Nm) (c : Nat) : Str := nmAt 2000003 N.ms c
def Nm.en (N : Nm) (c : Nat) : Str := nmAt 2000004 N.es c
/-- where the class of a number stands -/
def Nm.ca (N : Nm) (K : PySem.W.Frag) (c : Nat) : Addr := He.ga K (N.cn c)
def Nm.ea (N : Nm) (K : PySem.W.Frag) (c : Nat) : Addr := He.ga K (N.en c)
/-- the tables of a program -/
structure Sig where
  N : Nm
  P : TT.Prog
  ats : List (Str × Option Str)
  gl : List (Str × Nat)
  cls : List (Str × Nat)
  cons : List (Str × TT.D)
  blts : List Str
  asked : Str
/-- a def: its text, its names, whether lambdas stand in it -/
structure DefS where
  d : He.DefD
  N : List Str
  lam : Bool
def mk0B (K : PySem.W.Frag) (C : Addr) : Bool := PySem.W.makesIn K C && (decide (PySem.W.findIn K (.ref C) "__init__" = some (some (.builtin "object.__init__"))) && PySem.W.keepIn K (.ref C))
def isiB (N : Nm) (K : PySem.W.Frag) : Bool := decide (PySem.W.specialIn K (.builtin "object.__class__") "__get__" = some (some (.builtin "getset_descriptor.__get__"))) && (decide (PySem.W.takesIn K (.builtin "object.__class__") = some true) &&
  (List.range N.cs.length).all fun c => decide (PySem.W.findIn K (.ref (N.ca K c)) "__class__" = some (some (.builtin "object.__class__"))) && (decide (PySem.W.mroIn K (N.ca K c) (.type "object") = some true) && (decide (PySem.W.kitOne K (.type "str") (.ref (N.ca K c)) = some false) && (decide (PySem.W.kitOne K (.type "NoneType") (.ref (N.ca K c)) = some false) && (decide (PySem.W.kitOne K (.type "tuple") (.ref (N.ca K c)) = some false) &&
    (List.range N.cs.length).all fun k => decide (PySem.W.kitOne K (.ref (N.ca K k)) (.ref (N.ca K c)) = some (decide (k = c))))))))
def oeqB (K : PySem.W.Frag) (C : Addr) : Bool := decide (PySem.W.mroIn K C (.type "object") = some true) && (decide (PySem.W.findIn K (.ref C) "__eq__" = some (some (.builtin "object.__eq__"))) && decide (PySem.W.findIn K (.ref C) "__ne__" = some (some (.builtin "object.__ne__"))))
def Sig.fa (S : Sig) (K : PySem.W.Frag) (n : Nat) : Addr := match S.ats[n]? with
  | some p => He.fAd K p
  | none => 0
/-- classes without an __init__; the == of all -/
def nwB (S : Sig) (K : PySem.W.Frag) : Bool := (S.cls.all fun p => match S.P.init p.2 with
  | some _ => true
  | none => mk0B K (S.N.ca K p.2)) && (isiB S.N K && (List.range S.N.cs.length).all fun c => oeqB K (S.N.ca K c))
def lams (ds : List DefS) : List DefS := ds.filter (·.lam)
/-- where lambdas are made -/
def tfOf (ds : List DefS) : List He.Defn := (lams ds).map fun e => e.d.at_
def tabT (ds : List DefS) (K : PySem.W.Frag) : List (Addr × Str) := (lams ds).map fun e => ((He.cT K e.d.at_).2, e.d.qual ++ ".<locals>." ++ "<lambda>")
def exT (ds : List DefS) (K : PySem.W.Frag) : Bool := decide (((lams ds).map fun e => (He.cT K e.d.at_).2).Nodup)
def conF (p : Str × TT.D) : List He.Fa := match p.2 with
  | .int i => [.int p.1 i]
  | .str z => [.str p.1 z]
  | _ => []
def Sig.facts (S : Sig) : List He.Fa :=
  S.gl.map (fun p => .glo p.1) ++ (S.cls.map (fun p => .glo p.1) ++ (S.blts.map .free ++ (S.cons.flatMap conF ++ (S.N.cs.map .cls ++ (S.N.cs.flatMap (fun c => S.N.as.map fun f => .noat c f) ++ (S.P.inits.map (fun p => .mkr (S.N.cn p.1)) ++ (S.P.meths.map (fun t => .meth (S.N.cn t.1) (S.N.mn t.2.1)) ++
    (S.N.es.map .glo ++ S.N.es.map .exc))))))))
def excCB (K : PySem.W.Frag) (D : Addr) : Bool :=
  He.eqO (PySem.W.findIn K (.ref D) "__getattribute__") (some (some (.builtin "BaseException.__getattribute__"))) && (He.eqO (PySem.W.findIn K (.ref D) "__getattr__") (some none) && (decide (PySem.W.subIn K (.ref D) (.type "BaseException") = some true) && (PySem.W.hasDictIn K D &&
    (He.eqO (PySem.W.findIn K (.ref D) "__class__") (some (some (.builtin "object.__class__"))) && (He.eqO (PySem.W.specialIn K (.builtin "object.__class__") "__get__") (some (some (.builtin "getset_descriptor.__get__"))) && (decide (PySem.W.takesIn K (.builtin "object.__class__") = some true) && decide (PySem.W.mroIn K D (.type "object") = some true)))))))
def excsB (S : Sig) (hand : Str) (K : PySem.W.Frag) : Bool := S.P.words.all fun p => excCB K (S.N.ea K p.1) && ((S.P.words.all fun q => decide (PySem.W.kitOne K (.ref (S.N.ea K p.1)) (.ref (S.N.ea K q.1)) = some (decide (S.N.en q.1 = S.N.en p.1)))) &&
  (decide (PySem.W.kitOne K (.ref (S.N.ea K p.1)) (.type "ValueError") = some true) && decide (PySem.W.exmOne K (.ref (S.N.ea K p.1)) (.ref (He.ga K hand)) = some true)))
def bOf (S : Sig) (y : Nat) (cn : Str) : Bool := decide (cn = "ValueError") || decide (cn = S.N.en y)
end TS

set_option maxRecDepth 100000
/-! A head's Hook whose part of the heap is gathered with a mask; the run in parts. -/
namespace TS
open PySem PySem.Spec PyProof.Rows L2 He HandSHeadRun
/-- the new ones among some addresses: a mask holds the known ones -/
def newM : List Addr → Nat → List Addr → Nat × List Addr
  | [], m, acc => (m, acc)
  | a :: r, m, acc => match Nat.beq (Nat.land (Nat.shiftRight m a) 1) 1 with
    | true => newM r m acc
    | false => frNat (Nat.lor m (Nat.shiftLeft 1 a)) fun m => newM r m (a :: acc)
def bfsM (g : Addr → Option Obj) : Nat → List Addr → Nat → List Addr → List Addr
  | 0, _, _, acc => acc
  | n + 1, fr, m, acc => match newM (fr.flatMap fun a => match g a with
      | some o => refsD o
      | none => []) m [] with
    | (m, nw) => bfsM g n nw m (acc ++ nw)
/-- what the module's names reach in four steps -/
def selM (g : Addr → Option Obj) : List Addr := frNat (Nat.shiftLeft 1 mainGlobals) fun m => bfsM g 4 [mainGlobals] m [mainGlobals]
abbrev KM (g : Addr → Option Obj) : PySem.W.Frag := frT g (selM g)
def obsM (fa : List Fa) (fn : List DefD) (tf : List Defn) (ex : PySem.W.Frag → Bool) (g : Addr → Option Obj) : AlX :=
  (((((fa.all fun f => f.ok (KM g)) && fn.all fun d => d.ok (KM g)), fn.map fun d => fnW (KM g) d.at_), []), ex (KM g) && tabsB g tf (KM g))
theorem saysM_of {fa : List Fa} {fn : List DefD} {tf : List Defn} {ex : PySem.W.Frag → Bool} {w : World} {h : Heap} (e : obsM fa fn tf ex h.get? = valX fn [] w) : SaysX fa fn [] tf ex w h (KM h.get?) := by
  have e1 : obsT fa fn [] (KM h.get?) = valT fn [] w := congrArg (fun z : AlX => z.1) e
  have e2 : (ex (KM h.get?) && tabsB h.get? tf (KM h.get?)) = true := congrArg (fun z : AlX => z.2) e
  obtain ⟨h1, h2⟩ := ba e2
  have key : ∀ p ∈ tf, PySem.W.codeHdIn (KM h.get?) (cT (KM h.get?) p).1 (cT (KM h.get?) p).2 = true ∧ ∃ o, h.get? (cT (KM h.get?) p).2 = some o ∧ emptyTab o = true := by
    intro p hp
    obtain ⟨a, b⟩ := ba (List.all_eq_true.mp h2 p hp)
    refine ⟨a, ?_⟩
    split at b
    · exact ⟨_, by assumption, b⟩
    · cases b
  refine ⟨e1, h1, fun p hp => (key p hp).1, fun p hp => ?_, fun p hp => ?_⟩
  · obtain ⟨_, o, q, z⟩ := key p hp
    exact frT_none q z
  · obtain ⟨_, o, q, z⟩ := key p hp
    rw [q, emptyTab_eq z]
def hookM (fa : List Fa) (fn : List DefD) (tf : List Defn) (ex : PySem.W.Frag → Bool) : PySem.W.Hook where
  α := AlX
  obs := fun s => obsM fa fn tf ex s.heap.get?
  val := fun w => valX fn [] w
  says := fun w h => ∃ K : PySem.W.Frag, K.In h ∧ SaysX fa fn [] tf ex w h K
  of := fun _ _ e => ⟨_, frT_in, saysM_of e⟩
  keeps := fun _ _ _ ⟨K, hK, c⟩ k => ⟨K, PySem.W.Frag.In.keeps hK k, ⟨c.t, c.more, c.hd, c.out, fun p hp => k _ _ (c.empty p hp)⟩⟩
theorem obsM_eq {fa : List Fa} {fn : List DefD} {tf : List Defn} {ex : PySem.W.Frag → Bool} {g : Addr → Option Obj} {s : Shared} (h : ∀ a, g a = s.heap.get? a) : obsM fa fn tf ex g = (hookM fa fn tf ex).obs s := by
  have e : g = s.heap.get? := funext h
  rw [e] <;> rfl
theorem all_parts {α β : Type} {F : Option α} {f : β → α → Bool} {l : List β} (n : Nat) (h1 : F.map (fun s => (l.take n).all fun d => f d s) = some true) (h2 : F.map (fun s => (l.drop n).all fun d => f d s) = some true) : F.map (fun s => l.all fun d => f d s) = some true := by
  cases F with
  | none => cases h1
  | some s =>
    have a : ((l.take n).all fun d => f d s) = true := Option.some.inj h1
    have b : ((l.drop n).all fun d => f d s) = true := Option.some.inj h2
    show some (l.all fun d => f d s) = some true
    rw [← List.take_append_drop n l, List.all_append, a, b] <;> rfl
theorem map_parts {α β γ : Type} {F : Option α} {f : β → α → γ} {v : β → γ} {l : List β} (n : Nat) (h1 : F.map (fun s => (l.take n).map fun d => f d s) = some ((l.take n).map v)) (h2 : F.map (fun s => (l.drop n).map fun d => f d s) = some ((l.drop n).map v)) : F.map (fun s => l.map fun d => f d s) = some (l.map v) := by
  cases F with
  | none => cases h1
  | some s =>
    have a : ((l.take n).map fun d => f d s) = (l.take n).map v := Option.some.inj h1
    have b : ((l.drop n).map fun d => f d s) = (l.drop n).map v := Option.some.inj h2
    show some (l.map fun d => f d s) = some (l.map v)
    rw [← List.take_append_drop n l, List.map_append, List.map_append, a, b]
theorem run_parts {α β : Type} {F : Option α} {l : α → Bool} {q : α → β} {fa : List Fa} {fn : List DefD} {tf : List Defn} {ex : PySem.W.Frag → Bool} {g : α → Addr → Option Obj} {v : β} {w : World}
    (h1 : F.map l = some true) (h2 : F.map q = some v) (h3 : F.map (fun s => fa.all fun f => f.ok (KM (g s))) = some true) (h4 : F.map (fun s => fn.all fun d => d.ok (KM (g s))) = some true)
    (h5 : F.map (fun s => fn.map fun d => fnW (KM (g s)) d.at_) = some (fn.map DefD.val)) (h6 : F.map (fun s => ex (KM (g s))) = some true) (h7 : F.map (fun s => tabsB (g s) tf (KM (g s))) = some true) :
    F.map (fun s => (l s, q s, obsM fa fn tf ex (g s))) = some (true, v, valX fn [] w) := by
  cases F with
  | none => cases h1
  | some s =>
    have e1 : l s = true := Option.some.inj h1
    have e2 : q s = v := Option.some.inj h2
    have e3 : (fa.all fun f => f.ok (KM (g s))) = true := Option.some.inj h3
    have e4 : (fn.all fun d => d.ok (KM (g s))) = true := Option.some.inj h4
    have e5 : (fn.map fun d => fnW (KM (g s)) d.at_) = fn.map DefD.val := Option.some.inj h5
    have e6 : ex (KM (g s)) = true := Option.some.inj h6
    have e7 : tabsB (g s) tf (KM (g s)) = true := Option.some.inj h7
    show some (l s, q s, obsM fa fn tf ex (g s)) = _
    unfold obsM
    rw [e1, e2, e3, e4, e5, e6, e7] <;> rfl
def obM (fa : List Fa) (fn : List DefD) (tf : List Defn) (ex : PySem.W.Frag → Bool) (s : PySem.W.SharedT) : AlX := obsM fa fn tf ex (getT s)
theorem obM_eq {fa : List Fa} {fn : List DefD} {tf : List Defn} {ex : PySem.W.Frag → Bool} (s : PySem.W.SharedT) : obM fa fn tf ex s = (hookM fa fn tf ex).obs s.abs := obsM_eq (getT_eq s)
section
open PySem.W PySem.Calls
/-- where the module's run ends -/
noncomputable def endT (r : OpenRow) (M : Nat) (w : World) (os : OsState) : Option SharedT := endF (stepQ (denQ tabQ) r.prog w) M r.prog w os
theorem run_of {r : OpenRow} {q : Program} {fa : List Fa} {fn : List DefD} {tf : List Defn} {ex : PySem.W.Frag → Bool} {M : Nat} {loose : List Str} {w : World}
    (h1 : ∀ os, (endT r M w os).map (fun s => looksF r.prog (boot_heap w.params) s.abs) = some true)
    (h2 : ∀ os, (endT r M w os).map (fun s => seenQ q loose (importedModules r.prog.main.body) (fun s => xlAt q [] s && recOk r.toRowW.records s) s.abs) = some (openGood q loose))
    (h3 : ∀ os, (endT r M w os).map (fun s => fa.all fun f => f.ok (KM (getT s))) = some true) (h4 : ∀ os, (endT r M w os).map (fun s => fn.all fun d => d.ok (KM (getT s))) = some true)
    (h5 : ∀ os, (endT r M w os).map (fun s => fn.map fun d => fnW (KM (getT s)) d.at_) = some (fn.map DefD.val)) (h6 : ∀ os, (endT r M w os).map (fun s => ex (KM (getT s))) = some true)
    (h7 : ∀ os, (endT r M w os).map (fun s => tabsB (getT s) tf (KM (getT s))) = some true) : RunEq r q (hookM fa fn tf ex) (obM fa fn tf ex) M loose w :=
  fun os => by
    have z := run_parts (w := w) (F := endT r M w os) (g := getT) (h1 os) (h2 os) (h3 os) (h4 os) (h5 os) (h6 os) (h7 os)
    exact z
end
end TS

set_option maxHeartbeats 0
/-! plain law: tools to run the small language by hand -/
namespace TT
/-- a mark that keeps simp out of what it marks -/
inductive Mk {α : Type} (a : α) : Type where
  | mk
/-- bind, shut to simp behind the first part -/
def R.bnd {α β : Type} (r : R α) (f : α → Sto → R β) (_ : Mk f := .mk) : R β := r.bind f
@[simp] theorem R.bnd_ok {α β : Type} (a : α) (s : Sto) (f : α → Sto → R β) (m : Mk f) : (R.ok a s).bnd f m = f a s := (rfl)
@[simp] theorem R.bnd_err {α β : Type} (c : Nat) (s : Sto) (f : α → Sto → R β) (m : Mk f) : (R.err c s : R α).bnd f m = .err c s := (rfl)
@[simp] theorem R.bnd_no {α β : Type} (f : α → Sto → R β) (m : Mk f) : (R.no : R α).bnd f m = .no := (rfl)
noncomputable def shut {α : Type} (a : α) : {x : α // x = a} := Classical.choice ⟨⟨a, rfl⟩⟩
noncomputable def sm : Nat → Bool := (shut small).1
noncomputable def bg : Int → Bool := (shut big).1
noncomputable def okQ : Int → Bool := (shut okR).1
theorem sm_eq : small = sm := ((shut small).2).symm
theorem bg_eq : big = bg := ((shut big).2).symm
theorem okQ_eq : okR = okQ := ((shut okR).2).symm
@[simp] theorem sm_of {n : Nat} (h : n ≤ 10000) : sm n = true := by rw [← sm_eq]; simp [small, h]
@[simp] theorem bg_of {i : Int} (h1 : -18446744073709551616 < i) (h2 : i < 18446744073709551616) : bg i = true := by
  rw [← bg_eq]; unfold big; simp only [decide_eq_true_eq]; omega
@[simp] theorem okQ_of {i : Int} (h1 : -4611686018427387904 ≤ i) (h2 : i < 4611686018427387904) : okQ i = true := by
  rw [← okQ_eq]
  unfold okR
  simp only [Bool.and_eq_true, decide_eq_true_eq]
  constructor <;> simp <;> omega
/-- a for from here on -/
def forG (c : Cxt) (n : Nat) (tg : Tg) (kill : List Nat) (body : Ss) (g : Its) (xs : List D) (e : Env) (s : Sto) : R (Fl × Env) :=
  forL (forF tg kill fun e s' => evSs c n body e s') g xs e s
def whlG (c : Cxt) (n : Nat) (t : E) (kill : List Nat) (body : Ss) (m : Nat) (e : Env) (s : Sto) : R (Fl × Env) :=
  whlL (fun e s => evE c t e s) (whlF kill fun e s' => evSs c n body e s') m e s
def lcG (c : Cxt) (tg : Tg) (ifs : Es) (elt : E) (e : Env) (g : Its) (n : Nat) (xs : List D) (s : Sto) : R Unit :=
  lcL (lcF tg (fun e s => evC c ifs e s) (fun e s => evE c elt e s) e) g n xs s
/-- a thing of a class made -/
def newG (F : Fun) (f cl : Nat) (fz : Bool) (ws : List W) (s : Sto) : R W := (F f (.loc s.length :: ws) (s ++ [.obj cl [] []])).bnd fun w s' => match w with
  | .d .non => if fz then (if s'.length = s.length + 1 then (match s'[s.length]? with
      | some (.obj c' ks vs) => .ok (.d (.obj c' ks vs)) s'.dropLast
      | _ => .no) else .no) else .ok (.loc s.length) s'
  | _ => .no
theorem newG_ok {F : Fun} {f cl c' : Nat} {ws : List W} {s : Sto} {ks : List Nat} {vs : List D} (h : F f (.loc s.length :: ws) (s ++ [.obj cl [] []]) = .ok (.d .non) (s ++ [.obj c' ks vs])) : newG F f cl true ws s = .ok (.d (.obj c' ks vs)) s := by
  unfold newG
  rw [h]
  simp
theorem newG_mut {F : Fun} {f cl : Nat} {ws : List W} {s s' : Sto} (h : F f (.loc s.length :: ws) (s ++ [.obj cl [] []]) = .ok (.d .non) s') : newG F f cl false ws s = .ok (.loc s.length) s' := by
  unfold newG
  rw [h]
  simp
theorem newG_err {F : Fun} {f cl x : Nat} {fz : Bool} {ws : List W} {s : Sto} (h : F f (.loc s.length :: ws) (s ++ [.obj cl [] []]) = .err x s) : newG F f cl fz ws s = .err x s := by
  unfold newG
  rw [h]
  rfl
/-! ### the rules of one step -/
section
variable (c : Cxt) (n : Nat) (e : Env) (s : Sto)
@[simp] theorem x_v (i : Nat) : evE c (.v i) e s = (match e[i]? with | some (some w) => .ok w s | _ => .no) := by simp only [evE]; try exact (rfl)
@[simp] theorem x_k (d : D) : evE c (.k d) e s = .ok (.d d) s := by simp only [evE]; try exact (rfl)
@[simp] theorem x_g (x : Nat) (d : D) : evE c (.g x d) e s = .ok (.d d) s := by simp only [evE]; try exact (rfl)
@[simp] theorem x_op (fz : Bool) (o : Op) (es : Es) : evE c (.op fz o es) e s = (evEs c es e s).bnd fun ws s => (opSem o ws s).bnd fun v s => fin fz v s := by simp only [evE]; try exact (rfl)
@[simp] theorem x_bm (fz : Bool) (o : Op) (a : E) (es : Es) : evE c (.bm fz o a es) e s = (evE c a e s).bnd fun x s => if recvOk o x s then (evEs c es e s).bnd fun ws s => (opSem o (x :: ws) s).bnd fun v s => fin fz v s else .no := by simp only [evE]; try exact (rfl)
@[simp] theorem x_chain (o o' : Op) (a b d : E) : evE c (.chain o o' a b d) e s = (evE c a e s).bnd fun x s => (evE c b e s).bnd fun y s => match coSem o x y with
    | some true => (evE c d e s).bnd fun z s => (R.of (coSem o' y z) s).bnd fun r s => .ok (.d (.bl r)) s
    | some false => .ok (.d (.bl false)) s
    | none => .no := by simp only [evE]; try exact (rfl)
@[simp] theorem x_bop (a : Bool) (es : Es) : evE c (.bop a es) e s = evB c a es e s := by simp only [evE]; try exact (rfl)
@[simp] theorem x_not (a : E) : evE c (.not a) e s = (evE c a e s).bnd fun x s => (R.of (asB x) s).bnd fun r s => .ok (.d (.bl (!r))) s := by simp only [evE]; try exact (rfl)
@[simp] theorem x_ife (t a b : E) : evE c (.ife t a b) e s = (evE c t e s).bnd fun x s => match asB x with
    | some true => evE c a e s
    | some false => evE c b e s
    | none => .no := by simp only [evE]; try exact (rfl)
@[simp] theorem x_tup (es : Es) : evE c (.tup es) e s = (evEs c es e s).bnd fun ws s => (R.of (asDs ws) s).bnd fun ds s => .ok (.d (.tup ds)) s := by simp only [evE]; try exact (rfl)
@[simp] theorem x_lst (fz : Bool) (es : Es) : evE c (.lst fz es) e s = (evEs c es e s).bnd fun ws s => (R.of (asDs ws) s).bnd fun ds s => fin fz (.fl ds) s := by simp only [evE]; try exact (rfl)
@[simp] theorem x_dic (fz : Bool) (t : Nat) : evE c (.dic fz t) e s = fin fz (.fd t) s := by simp only [evE]; try exact (rfl)
@[simp] theorem x_slc (fz : Bool) (a : E) (lo hi : Es) : evE c (.slc fz a lo hi) e s = (evE c a e s).bnd fun x s => (evO c lo e s).bnd fun l s => (evO c hi e s).bnd fun h s => match x with
    | .d (.tup ds) => .ok (.d (.tup (cut ds l h))) s
    | .d (.str z) => if sm z.length then .ok (.d (.str ⟨(cut z.cps.toList l h).toArray⟩)) s else .no
    | _ => match lstM s x with
      | some ds => fin fz (.fl (cut ds l h)) s
      | none => .no := by rw [← sm_eq]; simp only [evE]; try exact (rfl)
@[simp] theorem x_rev (fz : Bool) (a : E) : evE c (.rev fz a) e s = (evE c a e s).bnd fun x s => match x with
    | .d (.tup ds) => .ok (.d (.tup ds.reverse)) s
    | _ => match lstM s x with
      | some ds => fin fz (.fl ds.reverse) s
      | none => .no := by simp only [evE]; try exact (rfl)
@[simp] theorem x_attr (a : E) (f : Nat) : evE c (.attr a f) e s = (evE c a e s).bnd fun x s => match objOf s x with
    | some (_, ks, vs) => (R.of (look f ks vs) s).bnd fun r s => .ok (.d r) s
    | none => .no := by simp only [evE]; try exact (rfl)
@[simp] theorem x_call (f : Nat) (es : Es) : evE c (.call f es) e s = (evEs c es e s).bnd fun ws s => c.F 0 f ws s := by simp only [evE]; try exact (rfl)
@[simp] theorem x_meth (a : E) (m : Nat) (es : Es) : evE c (.meth a m es) e s = (evE c a e s).bnd fun x s => match objOf s x with
    | some (cl, _, _) => match c.P.meth cl m with
      | some f => (evEs c es e s).bnd fun ws s => c.F 0 f (x :: ws) s
      | none => .no
    | none => .no := by simp only [evE]; try exact (rfl)
@[simp] theorem x_new (fz : Bool) (cl : Nat) (es : Es) : evE c (.new fz cl es) e s = (match c.P.init cl with
    | some f => (evEs c es e s).bnd fun ws s => newG (c.F 1) f cl fz ws s
    | none => .no) := by simp only [evE]; try exact (rfl)
@[simp] theorem x_new0 (cl : Nat) : evE c (.new0 cl) e s = .ok (.d (.obj cl [] [])) s := by simp only [evE]; try exact (rfl)
@[simp] theorem x_fz (a : E) : evE c (.fz a) e s = (evE c a e s).bnd fun w s' => match w with
    | .d x => .ok (.d x) s'
    | .loc l => if s.length ≤ l ∧ l + 1 = s'.length then (match freeze s' l with
      | some (d, s'') => .ok (.d d) s''
      | none => .no) else .no := by simp only [evE]; try exact (rfl)
@[simp] theorem x_lc (fz : Bool) (own : List Nat) (tg : Tg) (it : It) (ifs : Es) (elt : E) : evE c (.lc fz own tg it ifs elt) e s = (evI c it e s).bnd fun g s =>
      (lcG c tg ifs elt (killE own e) g s.length g.1 (s ++ [.lst []])).bnd fun _ s' => finC fz s.length s' := by simp only [evE]; try exact (rfl)
@[simp] theorem x_ask (a : E) : evE c (.ask a) e s = (match evE c.down a e s with
    | .ok w s => .ok w s
    | .err x s => (R.of (c.P.words.lookup x) s).bnd fun z s => .ok (.d (.str z)) s
    | .no => .no) := by simp only [evE]; try exact (rfl)
@[simp] theorem xs_nil : evEs c .nil e s = .ok [] s := by simp only [evEs]; try exact (rfl)
@[simp] theorem xs_cons (a : E) (r : Es) : evEs c (.cons a r) e s = (evE c a e s).bnd fun w s => (evEs c r e s).bnd fun ws s => .ok (w :: ws) s := by simp only [evEs]; try exact (rfl)
@[simp] theorem xb_one (q : Bool) (a : E) : evB c q (.cons a .nil) e s = (evE c a e s).bnd fun x s => (R.of (asB x) s).bnd fun r s => .ok (.d (.bl r)) s := by simp only [evB]; try exact (rfl)
@[simp] theorem xb_cons (q : Bool) (a b : E) (r : Es) : evB c q (.cons a (.cons b r)) e s = (evE c a e s).bnd fun x s => match asB x with
    | some t => if t = q then evB c q (.cons b r) e s else .ok (.d (.bl t)) s
    | none => .no := by simp only [evB]; try exact (rfl)
@[simp] theorem xo_nil : evO c .nil e s = .ok none s := by simp only [evO]; try exact (rfl)
@[simp] theorem xo_cons (a : E) (r : Es) : evO c (.cons a r) e s = (evE c a e s).bnd fun x s => (R.of (asI x) s).bnd fun r s => .ok (some r) s := by simp only [evO]; try exact (rfl)
@[simp] theorem xc_nil : evC c .nil e s = .ok true s := by simp only [evC]; try exact (rfl)
@[simp] theorem xc_cons (a : E) (r : Es) : evC c (.cons a r) e s = (evE c a e s).bnd fun x s => R.of (asB x) s := by simp only [evC]; try exact (rfl)
@[simp] theorem xi_seq (a : E) : evI c (.seq a) e s = (evE c a e s).bnd fun x s => R.of (walkOf s x) s := by simp only [evI]; try exact (rfl)
@[simp] theorem xi_txt (a : E) : evI c (.txt a) e s = (evE c a e s).bnd fun x s => match x with
    | .d (.str z) => .ok (z.cps.toList.map fun c => .str ⟨#[c]⟩, none) s
    | _ => .no := by simp only [evI]; try exact (rfl)
@[simp] theorem xi_rng1 (a : E) : evI c (.rng1 a) e s = (evE c a e s).bnd fun x s => match asI x with
    | some j => if okQ j then .ok (rngD 0 j, none) s else .no
    | none => .no := by rw [← okQ_eq]; simp only [evI]; try exact (rfl)
@[simp] theorem xi_rng2 (a b : E) : evI c (.rng2 a b) e s = (evE c a e s).bnd fun x s => (evE c b e s).bnd fun y s => match asI x, asI y with
    | some i, some j => if okQ i && okQ j then .ok (rngD i j, none) s else .no
    | _, _ => .no := by rw [← okQ_eq]; simp only [evI]; try exact (rfl)
@[simp] theorem xi_enm (a : E) : evI c (.enm a) e s = (evE c a e s).bnd fun x s => match x with
    | .d (.lst ds) => .ok (enumD 0 ds, none) s
    | .d (.tup ds) => .ok (enumD 0 ds, none) s
    | _ => .no := by simp only [evI]; try exact (rfl)
@[simp] theorem xi_revs (a : E) : evI c (.revs a) e s = (evE c a e s).bnd fun x s => match x with
    | .d (.lst ds) => .ok (ds.reverse, none) s
    | .d (.tup ds) => .ok (ds.reverse, none) s
    | _ => .no := by simp only [evI]; try exact (rfl)
@[simp] theorem xi_zip (a b : E) : evI c (.zip a b) e s = (evE c a e s).bnd fun x s => (evE c b e s).bnd fun y s => match x, y with
    | .d p, .d q => match seqOf s (.d p), seqOf s (.d q) with
      | some ds, some es => .ok ((ds.zip es).map fun t => .tup [t.1, t.2], none) s
      | _, _ => .no
    | _, _ => .no := by simp only [evI]; try exact (rfl)
@[simp] theorem s_asg (tg : Tg) (a : E) : evS c n (.asg tg a) e s = (evE c a e s).bnd fun w s => (R.of (tgSem tg w e) s).bnd fun e' s => .ok (.nx, e') s := by simp only [evS]; try exact (rfl)
@[simp] theorem s_par (is : List Nat) (es : Es) : evS c n (.par is es) e s = (evEs c es e s).bnd fun ws s => if is.length = ws.length then .ok (.nx, (is.zip ws).foldl (fun e p => e.set p.1 (some p.2)) e) s else .no := by simp only [evS]; try exact (rfl)
@[simp] theorem s_sub (o i a : E) : evS c n (.sub o i a) e s = (evE c a e s).bnd fun w s => (evE c o e s).bnd fun x s => (evE c i e s).bnd fun y s => match x, asI y, asD w with
    | .loc l, some j, some d => match s[l]? with
      | some (.lst ds) => match ixOf ds.length j with
        | some k => .ok (.nx, e) (s.set l (.lst (ds.set k d)))
        | none => .no
      | _ => .no
    | _, _, _ => .no := by simp only [evS]; try exact (rfl)
@[simp] theorem s_dput (o i a : E) : evS c n (.dput o i a) e s = (evE c a e s).bnd fun w s => (evE c o e s).bnd fun x s => (evE c i e s).bnd fun y s => match x, asD y, asD w with
    | .loc l, some k, some d => match s[l]? with
      | some (.dct t ks vs) => if keysOk t k && sm ks.length then .ok (.nx, e) (s.set l (.dct (kindK t k) (putKs k ks) (putVs k d ks vs))) else .no
      | _ => .no
    | _, _, _ => .no := by rw [← sm_eq]; simp only [evS]; try exact (rfl)
@[simp] theorem s_fld (o : E) (f : Nat) (a : E) : evS c n (.fld o f a) e s = (evE c a e s).bnd fun w s => (evE c o e s).bnd fun x s => match x, asD w with
    | .loc l, some d => match s[l]? with
      | some (.obj cl ks vs) => if ks.length < 900 then .ok (.nx, e) (s.set l (.obj cl (putKs f ks) (putN f d ks vs))) else .no
      | _ => .no
    | _, _ => .no := by simp only [evS]; try exact (rfl)
@[simp] theorem s_ex (a : E) : evS c n (.ex a) e s = (evE c a e s).bnd fun _ s => .ok (.nx, e) s := by simp only [evS]; try exact (rfl)
@[simp] theorem s_ret (a : E) : evS c n (.ret a) e s = (evE c a e s).bnd fun w s => .ok (.ret w, e) s := by simp only [evS]; try exact (rfl)
@[simp] theorem s_retN : evS c n .retN e s = .ok (.ret (.d .non), e) s := by simp only [evS]; try exact (rfl)
@[simp] theorem s_ite (t : E) (a b : Ss) : evS c n (.ite t a b) e s = (evE c t e s).bnd fun x s => match asB x with
    | some true => evSs c n a e s
    | some false => evSs c n b e s
    | none => .no := by simp only [evS]; try exact (rfl)
@[simp] theorem s_for (tg : Tg) (it : It) (kill : List Nat) (body : Ss) : evS c n (.for tg it kill body) e s = (evI c it e s).bnd fun g s => forG c s.length tg kill body g g.1 e s := by simp only [evS]; try exact (rfl)
@[simp] theorem s_whl (m : Nat) (t : E) (kill : List Nat) (body : Ss) : evS c n (.whl m t kill body) e s = whlG c s.length t kill body m e s := by simp only [evS]; try exact (rfl)
@[simp] theorem s_raise (x : Nat) : evS c n (.raise x) e s = .err x s := by simp only [evS]; try exact (rfl)
@[simp] theorem s_try (body : Ss) (x : Nat) (suite : Ss) : evS c n (.try1 body x suite) e s = (match evSs c n body e s with
    | .ok r s => .ok r s
    | .err y s => if y = x then evSs c n suite (e.map fun _ => none) s else .no
    | .no => .no) := by simp only [evS]; try exact (rfl)
@[simp] theorem s_pass : evS c n .pass e s = .ok (.nx, e) s := by simp only [evS]; try exact (rfl)
@[simp] theorem s_brk : evS c n .brk e s = .ok (.brk, e) s := by simp only [evS]; try exact (rfl)
@[simp] theorem s_cnt : evS c n .cnt e s = .ok (.cnt, e) s := by simp only [evS]; try exact (rfl)
@[simp] theorem s_gfrz (i : Nat) : evS c n (.gfrz i) e s = (match e[i]? with
    | some (some (.loc l)) => if n ≤ l then match freeze s l with
      | some (d, s') => .ok (.nx, (unName l e).set i (some (.d d))) s'
      | none => .no else .no
    | _ => .no) := by simp only [evS]; try exact (rfl)
@[simp] theorem s_gdrop (i : Nat) : evS c n (.gdrop i) e s = (match e[i]? with
    | some (some (.loc l)) => if n ≤ l ∧ l + 1 = s.length then .ok (.nx, unName l e) s.dropLast else .no
    | _ => .no) := by simp only [evS]; try exact (rfl)
@[simp] theorem ss_nil : evSs c n .nil e s = .ok (.nx, e) s := by simp only [evSs]; try exact (rfl)
@[simp] theorem ss_cons (a : S) (r : Ss) : evSs c n (.cons a r) e s = (evS c n a e s).bnd fun q s => match q.1 with
    | .nx => evSs c n r q.2 s
    | _ => .ok q s := by simp only [evSs]; try exact (rfl)
end
end TT
namespace TT
open PySem (Str)
/-! ### values and operators -/
section
variable (s : Sto)
@[simp] theorem asB_bl (b : Bool) : asB (.d (.bl b)) = some b := (rfl)
@[simp] theorem asI_int (i : Int) : asI (.d (.int i)) = some i := (rfl)
@[simp] theorem asD_d (d : D) : asD (.d d) = some d := (rfl)
@[simp] theorem asDs_nil : asDs [] = some [] := (rfl)
@[simp] theorem asDs_cons (d : D) (r : List W) : asDs (.d d :: r) = (asDs r).map (d :: ·) := (rfl)
@[simp] theorem fin_w (fz : Bool) (w : W) : fin fz (.w w) s = .ok w s := (rfl)
@[simp] theorem fin_fl_t (ds : List D) : fin true (.fl ds) s = .ok (.d (.lst ds)) s := (rfl)
@[simp] theorem fin_fl_f (ds : List D) : fin false (.fl ds) s = .ok (.loc s.length) (s ++ [.lst ds]) := (rfl)
@[simp] theorem fin_fd_t (t : Nat) : fin true (.fd t) s = .ok (.d (.dct t [] [])) s := (rfl)
@[simp] theorem fin_fd_f (t : Nat) : fin false (.fd t) s = .ok (.loc s.length) (s ++ [.dct t [] []]) := (rfl)
@[simp] theorem seqOf_lst (ds : List D) : seqOf s (.d (.lst ds)) = some ds := (rfl)
@[simp] theorem seqOf_rol (ds : List D) : seqOf s (.d (.rol ds)) = some ds := (rfl)
@[simp] theorem seqOf_tup (ds : List D) : seqOf s (.d (.tup ds)) = some ds := (rfl)
@[simp] theorem seqOf_loc (l : Nat) : seqOf s (.loc l) = (match s[l]? with | some (.lst ds) => some ds | _ => none) := (rfl)
@[simp] theorem lstOf_lst (ds : List D) : lstOf s (.d (.lst ds)) = some ds := (rfl)
@[simp] theorem lstOf_rol (ds : List D) : lstOf s (.d (.rol ds)) = some ds := (rfl)
@[simp] theorem lstOf_loc (l : Nat) : lstOf s (.loc l) = (match s[l]? with | some (.lst ds) => some ds | _ => none) := (rfl)
@[simp] theorem lstM_lst (ds : List D) : lstM s (.d (.lst ds)) = some ds := (rfl)
@[simp] theorem lstM_loc (l : Nat) : lstM s (.loc l) = (match s[l]? with | some (.lst ds) => some ds | _ => none) := (rfl)
@[simp] theorem lstM_tup (ds : List D) : lstM s (.d (.tup ds)) = none := (rfl)
@[simp] theorem tupOf_tup (ds : List D) : tupOf (.d (.tup ds)) = some ds := (rfl)
@[simp] theorem datOf_d (d : D) : datOf s (.d d) = some d := (rfl)
@[simp] theorem datOf_loc (l : Nat) : datOf s (.loc l) = (match s[l]? with | some (.lst ds) => some (.lst ds) | _ => none) := (rfl)
@[simp] theorem dctOf_d (t : Nat) (a b : List D) : dctOf s (.d (.dct t a b)) = some (t, a, b) := (rfl)
@[simp] theorem dctOf_loc (l : Nat) : dctOf s (.loc l) = (match s[l]? with | some (.dct t ks vs) => some (t, ks, vs) | _ => none) := (rfl)
@[simp] theorem objOf_d (c : Nat) (a : List Nat) (b : List D) : objOf s (.d (.obj c a b)) = some (c, a, b) := (rfl)
@[simp] theorem objOf_loc (l : Nat) : objOf s (.loc l) = (match s[l]? with | some (.obj c ks vs) => some (c, ks, vs) | _ => none) := (rfl)
@[simp] theorem walkOf_lst (ds : List D) : walkOf s (.d (.lst ds)) = some (ds, none) := (rfl)
@[simp] theorem walkOf_rol (ds : List D) : walkOf s (.d (.rol ds)) = some (ds, none) := (rfl)
@[simp] theorem walkOf_tup (ds : List D) : walkOf s (.d (.tup ds)) = some (ds, none) := (rfl)
@[simp] theorem walkOf_loc (l : Nat) : walkOf s (.loc l) = (match s[l]? with | some (.lst ds) => some (ds, some l) | _ => none) := (rfl)
@[simp] theorem look_hit {α β : Type} [DecidableEq α] (k : α) (ks : List α) (v : β) (vs : List β) : look k (k :: ks) (v :: vs) = some v := by simp [look]
theorem look_cons {α β : Type} [DecidableEq α] (k a : α) (ks : List α) (v : β) (vs : List β) : look k (a :: ks) (v :: vs) = if a = k then some v else look k ks vs := (rfl)
@[simp] theorem still_none (ds : List D) : still (ds, none) s = true := (rfl)
@[simp] theorem leave_d (kp : Bool) (n : Nat) (x : D) : leave kp n (.d x) s = .ok (.d x) (s.take n) := (rfl)
theorem leave_loc (kp : Bool) (n l : Nat) : leave kp n (.loc l) s = if l < n then .ok (.loc l) (s.take n) else match s[l]? with
    | some (.lst ds) => if kp then .ok (.loc n) (s.take n ++ [.lst ds]) else .ok (.d (.lst ds)) (s.take n)
    | some (.dct t ks vs) => if kp then .ok (.loc n) (s.take n ++ [.dct t ks vs]) else .ok (.d (.dct t ks vs)) (s.take n)
    | some (.obj c ks vs) => if kp then .ok (.loc n) (s.take n ++ [.obj c ks vs]) else .ok (.d (.obj c ks vs)) (s.take n)
    | _ => .no := by unfold leave; try exact (rfl)
/-! operators -/
@[simp] theorem o_neg (i : Int) : opSem .neg [.d (.int i)] s = .ok (.w (.d (.int (-i)))) s := (rfl)
@[simp] theorem o_abs (i : Int) : opSem .abs [.d (.int i)] s = .ok (.w (.d (.int (if i < 0 then -i else i)))) s := (rfl)
@[simp] theorem o_intb (b : Bool) : opSem .int [.d (.bl b)] s = .ok (.w (.d (.int (if b then 1 else 0)))) s := (rfl)
@[simp] theorem o_int (i : Int) : opSem .int [.d (.int i)] s = .ok (.w (.d (.int i))) s := (rfl)
@[simp] theorem o_len_t (ds : List D) : opSem .len [.d (.tup ds)] s = .ok (.w (.d (.int ds.length))) s := (rfl)
@[simp] theorem o_len_l (ds : List D) : opSem .len [.d (.lst ds)] s = .ok (.w (.d (.int ds.length))) s := (rfl)
@[simp] theorem o_len_r (ds : List D) : opSem .len [.d (.rol ds)] s = .ok (.w (.d (.int ds.length))) s := (rfl)
@[simp] theorem o_len_loc (l : Nat) : opSem .len [.loc l] s = (match seqOf s (.loc l) with | some ds => .ok (.w (.d (.int ds.length))) s | none => .no) := (rfl)
theorem o_len_s (z : Str) (h : sm z.length = true) : opSem .len [.d (.str z)] s = .ok (.w (.d (.int z.length))) s := by
  rw [← sm_eq] at h
  simp only [opSem, lenS]
  simp [h, int1]
@[simp] theorem o_lenD (x : W) : opSem .lenD [x] s = (match dctOf s x with | some (_, ks, _) => .ok (.w (.d (.int ks.length))) s | none => .no) := (rfl)
@[simp] theorem o_sum (x : W) : opSem .sum [x] s = (match seqOf s x with | some ds => (R.of (dInts ds) s).bnd fun r s => .ok (.w (.d (.int r.sum))) s | none => .no) := (rfl)
@[simp] theorem o_isTup_t (ds : List D) : opSem .isTup [.d (.tup ds)] s = .ok (.w (.d (.bl true))) s := (rfl)
@[simp] theorem o_isTup_i (i : Int) : opSem .isTup [.d (.int i)] s = .ok (.w (.d (.bl false))) s := (rfl)
@[simp] theorem o_isCls_o (c k : Nat) (a : List Nat) (b : List D) : opSem (.isCls c) [.d (.obj k a b)] s = .ok (.w (.d (.bl (decide (k = c))))) s := (rfl)
@[simp] theorem o_isCls_s (c : Nat) (z : Str) : opSem (.isCls c) [.d (.str z)] s = .ok (.w (.d (.bl false))) s := (rfl)
@[simp] theorem o_isCls_t (c : Nat) (ds : List D) : opSem (.isCls c) [.d (.tup ds)] s = .ok (.w (.d (.bl false))) s := (rfl)
@[simp] theorem o_isCls_n (c : Nat) : opSem (.isCls c) [.d .non] s = .ok (.w (.d (.bl false))) s := (rfl)
@[simp] theorem o_list (x : W) : opSem .list [x] s = (match seqOf s x with | some ds => .ok (.fl ds) s | none => .no) := (rfl)
@[simp] theorem o_tuple_t (ds : List D) : opSem .tuple [.d (.tup ds)] s = .ok (.w (.d (.tup ds))) s := (rfl)
@[simp] theorem o_tuple_l (ds : List D) : opSem .tuple [.d (.lst ds)] s = .ok (.w (.d (.tup ds))) s := (rfl)
@[simp] theorem o_tuple_loc (l : Nat) : opSem .tuple [.loc l] s = (match lstOf s (.loc l) with | some ds => .ok (.w (.d (.tup ds))) s | none => .no) := (rfl)
@[simp] theorem o_listRev (x : W) : opSem .listRev [x] s = (match lstOf s x with | some ds => .ok (.fl ds.reverse) s | none => .no) := (rfl)
@[simp] theorem o_tupleRev (x : W) : opSem .tupleRev [x] s = (match lstOf s x with | some ds => .ok (.w (.d (.tup ds.reverse))) s | none => .no) := (rfl)
@[simp] theorem o_all (x : W) : opSem .all [x] s = (match lstOf s x with | some ds => (R.of (bls ds) s).bnd fun r s => .ok (.w (.d (.bl (r.all id)))) s | none => .no) := (rfl)
@[simp] theorem o_any (x : W) : opSem .any [x] s = (match lstOf s x with | some ds => (R.of (bls ds) s).bnd fun r s => .ok (.w (.d (.bl (r.any id)))) s | none => .no) := (rfl)
@[simp] theorem o_pop (l : Nat) : opSem .pop [.loc l] s = (match s[l]? with
    | some (.lst ds) => (R.of ds.getLast? s).bnd fun d s => .ok (.w (.d d)) (s.set l (.lst ds.dropLast))
    | _ => .no) := (rfl)
@[simp] theorem o_append (l : Nat) (d : D) : opSem .append [.loc l, .d d] s = (match s[l]? with
    | some (.lst ds) => if sm ds.length then .ok (.w (.d .non)) (s.set l (.lst (ds ++ [d]))) else .no
    | _ => .no) := by rw [← sm_eq]; try exact (rfl)
@[simp] theorem o_extend (l : Nat) (y : W) : opSem .extend [.loc l, y] s = (match lstM s y with
    | some es => match s[l]? with
      | some (.lst ds) => if sm ds.length && sm es.length then .ok (.w (.d .non)) (s.set l (.lst (ds ++ es))) else .no
      | _ => .no
    | none => .no) := by
  rw [← sm_eq]
  simp only [opSem, extS]
  cases lstM s y <;> rfl
@[simp] theorem o_add_i (i j : Int) : opSem .add [.d (.int i), .d (.int j)] s = .ok (.w (.d (.int (i + j)))) s := (rfl)
@[simp] theorem o_add_s (x y : Str) : opSem .add [.d (.str x), .d (.str y)] s = if sm x.length && sm y.length then .ok (.w (.d (.str (x ++ y)))) s else .no := by rw [← sm_eq]; try exact (rfl)
@[simp] theorem o_add_t (x y : List D) : opSem .add [.d (.tup x), .d (.tup y)] s = if sm x.length && sm y.length then .ok (.w (.d (.tup (x ++ y)))) s else .no := by rw [← sm_eq]; try exact (rfl)
@[simp] theorem o_add_l (x y : List D) : opSem .add [.d (.lst x), .d (.lst y)] s = if sm x.length && sm y.length then .ok (.fl (x ++ y)) s else .no := by rw [← sm_eq]; try exact (rfl)
@[simp] theorem o_sub (i j : Int) : opSem .sub [.d (.int i), .d (.int j)] s = .ok (.w (.d (.int (i - j)))) s := (rfl)
@[simp] theorem o_mul_i (i j : Int) : opSem .mul [.d (.int i), .d (.int j)] s = if bg i || bg j then .ok (.w (.d (.int (i * j)))) s else .no := by rw [← bg_eq]; try exact (rfl)
@[simp] theorem o_fdiv (i j : Int) : opSem .fdiv [.d (.int i), .d (.int j)] s = if 0 < j ∧ j < 1073741824 then .ok (.w (.d (.int (i / j)))) s else .no := by
  simp only [opSem, int2]
  split <;> simp_all [d1]
@[simp] theorem o_mod (i j : Int) : opSem .mod [.d (.int i), .d (.int j)] s = if 0 < j then .ok (.w (.d (.int (i % j)))) s else .no := by
  simp only [opSem, int2]
  split <;> simp_all [d1]
@[simp] theorem o_pow (i j : Int) : opSem .pow [.d (.int i), .d (.int j)] s = if 0 ≤ j ∧ j ≤ 1000 ∧ bg i = true then .ok (.w (.d (.int (i ^ j.toNat)))) s else .no := by
  rw [← bg_eq]
  simp only [opSem, int2]
  split <;> simp_all [d1]
@[simp] theorem o_divmod (i j : Int) : opSem .divmod [.d (.int i), .d (.int j)] s = if 0 < j ∧ j < 1073741824 then .ok (.w (.d (.tup [.int (i / j), .int (i % j)]))) s else .no := by
  simp only [opSem, int2]
  split <;> simp_all [d1]
@[simp] theorem objStr_os (c : Nat) (a : List Nat) (b : List D) (z : Str) : objStr (.obj c a b) (.str z) = true := (rfl)
@[simp] theorem o_eq (a b : D) : opSem .eq [.d a, .d b] s = if fair a b || objStr a b then .ok (.w (.d (.bl (decide (a = b))))) s else .no := by
  simp only [opSem, eqS, datOf_d, pyEqO]
  simp only [Bool.false_eq_true, if_false]
  split <;> simp_all [bl1]
@[simp] theorem o_ne (a b : D) : opSem .ne [.d a, .d b] s = if fair a b then .ok (.w (.d (.bl (!decide (a = b))))) s else .no := by
  simp only [opSem, eqS, datOf_d, pyEq]
  simp only [if_true]
  split <;> simp_all [bl1]
@[simp] theorem o_lt (i j : Int) : opSem .lt [.d (.int i), .d (.int j)] s = .ok (.w (.d (.bl (decide (i < j))))) s := (rfl)
theorem o_lt_t (a b : List D) (r : Bool) (h : Ds.al 7 a b = true) (ha : Ds.kn 7 a = true) (hb : Ds.kn 7 b = true) (e : Ds.lt a b = some r) : opSem .lt [.d (.tup a), .d (.tup b)] s = .ok (.w (.d (.bl r))) s := by
  simp only [opSem, ltS, h, ha, hb, Bool.and_self, if_true, e, R.of_some, R.bind_ok, bl1]
@[simp] theorem kindK_0 (k : D) : kindK 0 k = 0 := (rfl)
@[simp] theorem kindK_1 (k : D) : kindK 1 k = 1 := (rfl)
@[simp] theorem kindK_2 (k : D) : kindK 2 k = 2 := (rfl)
@[simp] theorem o_le (i j : Int) : opSem .le [.d (.int i), .d (.int j)] s = .ok (.w (.d (.bl (decide (i ≤ j))))) s := (rfl)
@[simp] theorem o_gt (i j : Int) : opSem .gt [.d (.int i), .d (.int j)] s = .ok (.w (.d (.bl (decide (j < i))))) s := (rfl)
@[simp] theorem o_ge (i j : Int) : opSem .ge [.d (.int i), .d (.int j)] s = .ok (.w (.d (.bl (decide (j ≤ i))))) s := (rfl)
@[simp] theorem o_max2 (i j : Int) : opSem .max2 [.d (.int i), .d (.int j)] s = .ok (.w (.d (.int (if j > i then j else i)))) s := (rfl)
@[simp] theorem o_min2 (i j : Int) : opSem .min2 [.d (.int i), .d (.int j)] s = .ok (.w (.d (.int (if j < i then j else i)))) s := (rfl)
@[simp] theorem o_isN (x : D) : opSem .isN [.d x, .d .non] s = .ok (.w (.d (.bl (decide (x = .non))))) s := by
  simp only [opSem, isNS, bl1, W.d.injEq]; try exact (rfl)
@[simp] theorem o_notN (x : D) : opSem .notN [.d x, .d .non] s = .ok (.w (.d (.bl (!decide (x = .non))))) s := by
  simp only [opSem, isNS, bl1, W.d.injEq]; try exact (rfl)
@[simp] theorem o_isB (a b : Bool) : opSem .isB [.d (.bl a), .d (.bl b)] s = .ok (.w (.d (.bl (decide (a = b))))) s := (rfl)
@[simp] theorem o_notB (a b : Bool) : opSem .notB [.d (.bl a), .d (.bl b)] s = .ok (.w (.d (.bl (!decide (a = b))))) s := (rfl)
@[simp] theorem o_inS (a : D) (y : W) : opSem .inS [.d a, y] s = (match seqOf s y with | some ds => (R.of (pyIn a ds) s).bnd fun r s => .ok (.w (.d (.bl r))) s | none => .no) := by
  simp only [opSem, inSq]
  cases seqOf s y <;> rfl
@[simp] theorem o_ninS (a : D) (y : W) : opSem .ninS [.d a, y] s = (match seqOf s y with | some ds => (R.of (pyIn a ds) s).bnd fun r s => .ok (.w (.d (.bl (!r)))) s | none => .no) := by
  simp only [opSem, inSq]
  cases seqOf s y <;> rfl
@[simp] theorem o_inD (a : D) (y : W) : opSem .inD [.d a, y] s = (match dctOf s y with | some (t, ks, _) => if keysOk t a then .ok (.w (.d (.bl (decide (a ∈ ks))))) s else .no | none => .no) := by
  simp only [opSem, inDc]
  cases dctOf s y <;> rfl
@[simp] theorem o_ninD (a : D) (y : W) : opSem .ninD [.d a, y] s = (match dctOf s y with | some (t, ks, _) => if keysOk t a then .ok (.w (.d (.bl (!decide (a ∈ ks))))) s else .no | none => .no) := by
  simp only [opSem, inDc]
  cases dctOf s y <;> rfl
@[simp] theorem o_ix_t (ds : List D) (i : Int) : opSem .ix [.d (.tup ds), .d (.int i)] s = (R.of (atI ds i) s).bnd d1 := (rfl)
@[simp] theorem o_ix_l (ds : List D) (i : Int) : opSem .ix [.d (.lst ds), .d (.int i)] s = (R.of (atI ds i) s).bnd d1 := (rfl)
@[simp] theorem o_ix_r (ds : List D) (i : Int) : opSem .ix [.d (.rol ds), .d (.int i)] s = (R.of (atI ds i) s).bnd d1 := (rfl)
@[simp] theorem o_ix_loc (l : Nat) (i : Int) : opSem .ix [.loc l, .d (.int i)] s = (match seqOf s (.loc l) with | some ds => (R.of (atI ds i) s).bnd d1 | none => .no) := (rfl)
@[simp] theorem o_ix_s (z : Str) (i : Int) : opSem .ix [.d (.str z), .d (.int i)] s = if sm z.length then (R.of (atI z.cps.toList i) s).bnd fun c s => d1 (.str ⟨#[c]⟩) s else .no := by rw [← sm_eq]; try exact (rfl)
@[simp] theorem o_dget (x : W) (k : D) : opSem .dget [x, .d k] s = (match dctOf s x with | some (t, ks, vs) => if keysOk t k then (R.of (look k ks vs) s).bnd d1 else .no | none => .no) := by
  simp only [opSem, dgetS]
  cases dctOf s x <;> rfl
@[simp] theorem d1_eq (d : D) : d1 d s = .ok (.w (.d d)) s := (rfl)
@[simp] theorem co_lt (i j : Int) : coSem .lt (.d (.int i)) (.d (.int j)) = some (decide (i < j)) := (rfl)
@[simp] theorem co_le (i j : Int) : coSem .le (.d (.int i)) (.d (.int j)) = some (decide (i ≤ j)) := (rfl)
@[simp] theorem rc_append (x : W) : recvOk .append x s = (lstOf s x).isSome := (rfl)
@[simp] theorem rc_pop (x : W) : recvOk .pop x s = (lstOf s x).isSome := (rfl)
@[simp] theorem rc_index (x : W) : recvOk .index x s = (lstOf s x).isSome := (rfl)
@[simp] theorem rc_extend (x : W) : recvOk .extend x s = (lstOf s x).isSome := (rfl)
@[simp] theorem rc_count (x : W) : recvOk .count x s = (lstOf s x).isSome := (rfl)
/-! the store -/
@[simp] theorem st_get {α : Type} (s r : List α) (i : Nat) : (s ++ r)[s.length + i]? = r[i]? := by
  rw [List.getElem?_append_right (by omega)]; congr 1; omega
@[simp] theorem st_get0 {α : Type} (s r : List α) : (s ++ r)[s.length]? = r[0]? := st_get s r 0
@[simp] theorem st_set {α : Type} (s r : List α) (i : Nat) (v : α) : (s ++ r).set (s.length + i) v = s ++ r.set i v := by
  rw [List.set_append_right _ _ (by omega)]; congr 2; omega
@[simp] theorem st_set0 {α : Type} (s r : List α) (v : α) : (s ++ r).set s.length v = s ++ r.set 0 v := st_set s r 0 v
@[simp] theorem st_take {α : Type} (s r : List α) : (s ++ r).take s.length = s := by simp
@[simp] theorem st_takeN {α : Type} (s r : List α) (i : Nat) : (s ++ r).take (s.length + i) = s ++ r.take i := by
  rw [List.take_append, List.take_of_length_le (by omega)]; simp
@[simp] theorem st_drop {α : Type} (x y : α) (s r : List α) : (x :: (s ++ y :: r)).dropLast = x :: (s ++ y :: r).dropLast := by
  cases s <;> rfl
@[simp] theorem tg_nm (i : Nat) (w : W) (e : Env) : tgSem (.nm i) w e = some (e.set i (some w)) := (rfl)
@[simp] theorem tg_tp (is : List Nat) (ds : List D) (e : Env) : tgSem (.tp is) (.d (.tup ds)) e = if is.length = ds.length then some (setAll is ds e) else none := (rfl)
@[simp] theorem setAll_cons (i : Nat) (is : List Nat) (d : D) (ds : List D) (e : Env) : setAll (i :: is) (d :: ds) e = setAll is ds (e.set i (some (.d d))) := (rfl)
@[simp] theorem setAll_nil (ds : List D) (e : Env) : setAll [] ds e = e := by cases ds <;> rfl
@[simp] theorem killE_nil (e : Env) : killE [] e = e := (rfl)
@[simp] theorem killE_cons (i : Nat) (r : List Nat) (e : Env) : killE (i :: r) e = killE r (e.set i none) := (rfl)
theorem forF_eq (tg : Tg) (kill : List Nat) (b : Env → Sto → R (Fl × Env)) (x : D) (e : Env) : forF tg kill b x e s = (match tgSem tg (.d x) e with
  | some e' => (b e' s).bnd fun r s => .ok (r.1, killE kill r.2) s
  | none => .no) := by unfold forF; try exact (rfl)
end
/-- an item by its number -/
def gi {α : Type} [Inhabited α] (r : List α) (i : Int) : α := r.getD i.toNat default
theorem atI_ok {α : Type} [Inhabited α] {r : List α} {i : Int} (h0 : 0 ≤ i) (h1 : i < r.length) : atI r i = some (gi r i) := by
  unfold atI ixOf gi
  rw [if_pos h0, if_pos h1]
  have : i.toNat < r.length := by omega
  simp [this]
@[simp] theorem atI_map {α β : Type} (f : α → β) (r : List α) (i : Int) : atI (r.map f) i = (atI r i).map f := by
  unfold atI
  simp only [List.length_map]
  cases ixOf r.length i <;> simp
@[simp] theorem atI_last {α : Type} (r : List α) (x : α) : atI (r ++ [x]) (-1) = some x := by
  unfold atI ixOf
  simp
  rw [if_pos (by omega)]
  simp
  have : ((-1 + ((r.length : Int) + 1))).toNat = r.length := by omega
  rw [this]
  simp

section
variable (c : Cxt) (n : Nat) (e : Env) (s : Sto)
@[simp] theorem forG_nil (tg : Tg) (kill : List Nat) (body : Ss) (g : Its) : forG c n tg kill body g [] e s = if still g s then .ok (.nx, e) s else .no := (rfl)
/-- what a turn's end leads to -/
def forK (c : Cxt) (n : Nat) (tg : Tg) (kill : List Nat) (body : Ss) (g : Its) (xs : List D) (q : Fl × Env) (s : Sto) : R (Fl × Env) := match q.1 with
  | .nx => forG c n tg kill body g xs (killE kill q.2) s
  | .cnt => forG c n tg kill body g xs (killE kill q.2) s
  | .brk => .ok (.nx, killE kill q.2) s
  | .ret w => .ok (.ret w, killE kill q.2) s
@[simp] theorem forK_nx (tg : Tg) (kill : List Nat) (body : Ss) (g : Its) (xs : List D) : forK c n tg kill body g xs (.nx, e) s = forG c n tg kill body g xs (killE kill e) s := (rfl)
@[simp] theorem forK_cnt (tg : Tg) (kill : List Nat) (body : Ss) (g : Its) (xs : List D) : forK c n tg kill body g xs (.cnt, e) s = forG c n tg kill body g xs (killE kill e) s := (rfl)
@[simp] theorem forK_brk (tg : Tg) (kill : List Nat) (body : Ss) (g : Its) (xs : List D) : forK c n tg kill body g xs (.brk, e) s = .ok (.nx, killE kill e) s := (rfl)
@[simp] theorem forK_ret (tg : Tg) (kill : List Nat) (body : Ss) (g : Its) (xs : List D) (w : W) : forK c n tg kill body g xs (.ret w, e) s = .ok (.ret w, killE kill e) s := (rfl)
theorem forG_cons (tg : Tg) (kill : List Nat) (body : Ss) (g : Its) (x : D) (xs : List D) : forG c n tg kill body g (x :: xs) e s = if still g s then (R.of (tgSem tg (.d x) e) s).bnd fun e' s => (evSs c n body e' s).bnd fun q s => forK c n tg kill body g xs q s else .no := by
  unfold forG
  rw [forL]
  split
  · rw [forF_eq]
    cases tgSem tg (.d x) e with
    | none => rfl
    | some e' =>
      simp only [R.of_some, R.bind_ok, R.bnd_ok]
      cases evSs c n body e' s with
      | ok q s' =>
        obtain ⟨fl, e''⟩ := q
        cases fl <;> rfl
      | err _ _ => rfl
      | no => rfl
  · rfl
/-- what a turn of a while leads to -/
def whlK (c : Cxt) (n : Nat) (t : E) (kill : List Nat) (body : Ss) (m : Nat) (q : Fl × Env) (s : Sto) : R (Fl × Env) := match q.1 with
  | .nx => whlG c n t kill body m (killE kill q.2) s
  | .cnt => whlG c n t kill body m (killE kill q.2) s
  | .brk => .ok (.nx, killE kill q.2) s
  | .ret w => .ok (.ret w, killE kill q.2) s
@[simp] theorem whlK_nx (t : E) (kill : List Nat) (body : Ss) (m : Nat) : whlK c n t kill body m (.nx, e) s = whlG c n t kill body m (killE kill e) s := (rfl)
@[simp] theorem whlK_cnt (t : E) (kill : List Nat) (body : Ss) (m : Nat) : whlK c n t kill body m (.cnt, e) s = whlG c n t kill body m (killE kill e) s := (rfl)
@[simp] theorem whlK_brk (t : E) (kill : List Nat) (body : Ss) (m : Nat) : whlK c n t kill body m (.brk, e) s = .ok (.nx, killE kill e) s := (rfl)
@[simp] theorem whlK_ret (t : E) (kill : List Nat) (body : Ss) (m : Nat) (w : W) : whlK c n t kill body m (.ret w, e) s = .ok (.ret w, killE kill e) s := (rfl)
theorem whlG_succ (t : E) (kill : List Nat) (body : Ss) (m : Nat) : whlG c n t kill body (m + 1) e s = (evE c t e s).bnd fun w s1 => match asB w with
    | some true => (evSs c n body e s1).bnd fun q s => whlK c n t kill body m q s
    | some false => .ok (.nx, e) s1
    | none => .no := by
  unfold whlG
  rw [whlL]
  congr 1
  funext w s1
  rcases asB w with _ | _ | _
  · rfl
  · rfl
  · simp only [whlF]
    cases evSs c n body e s1 with
    | ok q s' =>
      obtain ⟨fl, e''⟩ := q
      cases fl <;> rfl
    | err _ _ => rfl
    | no => rfl
@[simp] theorem lcG_nil (tg : Tg) (ifs : Es) (elt : E) (g : Its) : lcG c tg ifs elt e g n [] s = if still g s then .ok () s else .no := (rfl)
/-- one more item of a comprehension -/
noncomputable def lcA (n : Nat) (d : D) (s : Sto) (f : Sto → R Unit) (_ : Mk f := .mk) : R Unit := match s[n]? with
  | some (.lst acc) => if sm acc.length then f (s.set n (.lst (acc ++ [d]))) else .no
  | _ => .no
theorem lcG_cons (tg : Tg) (ifs : Es) (elt : E) (g : Its) (x : D) (xs : List D) : lcG c tg ifs elt e g n (x :: xs) s = if still g s then (R.of (tgSem tg (.d x) e) s).bnd fun e' s => (evC c ifs e' s).calm.bnd fun b s => if b then (evE c elt e' s).calm.bnd fun w s => (R.of (asD w) s).bnd fun y s => lcA n y s fun s => lcG c tg ifs elt e g n xs s else lcG c tg ifs elt e g n xs s else .no := by
  unfold lcG
  unfold lcA
  rw [← sm_eq]
  rw [lcL]
  split
  · unfold lcF
    cases tgSem tg (.d x) e with
    | none => rfl
    | some e' =>
      simp only [R.of_some, R.bind_ok, R.bnd_ok]
      cases evC c ifs e' s with
      | ok b s' =>
        cases b
        · rfl
        · simp only [R.bind_ok, R.bnd_ok, R.calm_ok, if_true]
          cases evE c elt e' s' with
          | ok w s'' =>
            cases w with
            | d y => rfl
            | loc l => rfl
          | err _ _ => rfl
          | no => rfl
      | err _ _ => rfl
      | no => rfl
  · rfl
end
/-- a def's end -/
def fnE (kp : Bool) (n : Nat) (r : R (Fl × Env)) : R W := match r with
  | .ok (.ret w, _) s' => leave kp n w s'
  | .ok (.nx, _) s' => .ok (.d .non) (s'.take n)
  | .ok _ _ => .no
  | .err x s' => .err x (s'.take n)
  | .no => .no
@[simp] theorem fnE_ret (kp : Bool) (n : Nat) (w : W) (e : Env) (s : Sto) : fnE kp n (.ok (.ret w, e) s) = leave kp n w s := (rfl)
@[simp] theorem fnE_nx (kp : Bool) (n : Nat) (e : Env) (s : Sto) : fnE kp n (.ok (.nx, e) s) = .ok (.d .non) (s.take n) := (rfl)
@[simp] theorem fnE_err (kp : Bool) (n : Nat) (x : Nat) (s : Sto) : fnE kp n (.err x s) = .err x (s.take n) := (rfl)
/-- a def's run -/
def runN (np ns : Nat) (kp : Bool) (c : Cxt) (b : Ss) (ws : List W) (s : Sto) : R W := runFn c ⟨np, ns, kp, b⟩ ws s
theorem runN_eq (np ns : Nat) (kp : Bool) (c : Cxt) (b : Ss) (ws : List W) (s : Sto) : runN np ns kp c b ws s = if ws.length = np ∧ np ≤ ns then fnE kp s.length (evSs c s.length b (ws.map some ++ List.replicate (ns - np) none) s) else .no := (rfl)
/-! what the defs do, shut: the kernel does not look into it -/
noncomputable def cxS (P : Prog) : {f : Nat → Cxt // ∀ k, f k = ⟨P, PhiA P k⟩} := Classical.choice ⟨⟨fun k => ⟨P, PhiA P k⟩, fun _ => rfl⟩⟩
noncomputable def cx (P : Prog) (k : Nat) : Cxt := (cxS P).1 k
noncomputable def callS (P : Prog) : {f : Nat → Fun // ∀ k, f k = Phi P k} := Classical.choice ⟨⟨fun k => Phi P k, fun _ => rfl⟩⟩
noncomputable def call (P : Prog) (k : Nat) : Fun := (callS P).1 k
theorem cx_eq (P : Prog) (k : Nat) : cx P k = ⟨P, PhiA P k⟩ := (cxS P).2 k
theorem call_eq (P : Prog) (k : Nat) : call P k = Phi P k := (callS P).2 k
@[simp] theorem cx_P (P : Prog) (k : Nat) : (cx P k).P = P := by rw [cx_eq]
@[simp] theorem cx_F0 (P : Prog) (k : Nat) : (cx P k).F 0 = call P k := by rw [cx_eq, call_eq]; try exact (rfl)
@[simp] theorem cx_F1 (P : Prog) (k : Nat) : (cx P (k + 1)).F 1 = call P k := by rw [cx_eq, call_eq]; try exact (rfl)
@[simp] theorem cx_down (P : Prog) (k : Nat) : (cx P (k + 2)).down = cx P k := by rw [cx_eq, cx_eq]; try exact (rfl)
theorem call_at {P : Prog} {f np ns : Nat} {kp : Bool} {b : Ss} (h : P.fns[f]? = some ⟨np, ns, kp, b⟩) (k : Nat) (ws : List W) (s : Sto) : call P (k + 1) f ws s = runN np ns kp (cx P k) b ws s := by
  rw [call_eq, cx_eq]
  show runAll P (PhiA P k) f ws s = _
  unfold runAll
  rw [h]
  exact (rfl)
theorem evSs_of (c : Cxt) (n : Nat) (e : Env) (s : Sto) {b b' : Ss} (h : b = b') : evSs c n b e s = evSs c n b' e s := by rw [h]
theorem atI_mid {α : Type} (a b : List α) (x : α) : atI (a ++ x :: b) a.length = some x := by
  unfold atI ixOf
  rw [if_pos (by omega), if_pos (by simp; omega)]
  simp
theorem rngD_nil {i j : Int} (h : j ≤ i) : rngD i j = [] := by
  unfold rngD
  rw [show (j - i).toNat = 0 by omega]
  rfl
theorem rngD_cons {i j : Int} (h : i < j) : rngD i j = .int i :: rngD (i + 1) j := by
  unfold rngD
  rw [show (j - i).toNat = (j - (i + 1)).toNat + 1 by omega, List.range_succ_eq_map]
  simp [Function.comp_def]
  intro a _
  omega
end TT

namespace G
abbrev F_end_of : Nat := 0
abbrev F_is_tree : Nat := 1
abbrev F_check_tree : Nat := 2
abbrev F_rows_in : Nat := 3
abbrev F_key_of : Nat := 4
abbrev F_parts : Nat := 5
abbrev F_is_rising : Nat := 6
abbrev F_are_tables : Nat := 7
abbrev F_Reader___init__ : Nat := 8
abbrev F_Reader_become : Nat := 9
abbrev F_Reader_book : Nat := 10
abbrev F_Reader_moods : Nat := 11
abbrev F_Reader_table : Nat := 12
abbrev F_Reader_liked : Nat := 13
abbrev F_Reader_lead : Nat := 14
abbrev F_Reader_is_liked : Nat := 15
abbrev F_Reader_mood : Nat := 16
abbrev F_Reader_likes : Nat := 17
abbrev F_read_by : Nat := 18
abbrev F_told_reader : Nat := 19
abbrev F_choices : Nat := 20
abbrev F_reached : Nat := 21
abbrev F_add : Nat := 22
abbrev F_offer : Nat := 23
abbrev F_offer_by : Nat := 24
abbrev F_next_way : Nat := 25
abbrev F_firsts : Nat := 26
abbrev F_first_of : Nat := 27
abbrev F_targets : Nat := 28
abbrev F_marks_of : Nat := 29
abbrev F_kinds_of : Nat := 30
abbrev F_spots_of : Nat := 31
abbrev F_sum_up : Nat := 32
abbrev F_next_mood : Nat := 33
abbrev F_made : Nat := 34
abbrev F_is_made_row : Nat := 35
abbrev F_Turner___init__ : Nat := 36
abbrev F_Turner_book : Nat := 37
abbrev F_Turner_goals : Nat := 38
abbrev F_Turner_states : Nat := 39
abbrev F_Turner_row : Nat := 40
abbrev F_folded : Nat := 41
abbrev F_Through___init__ : Nat := 42
abbrev F_Through_of_row : Nat := 43
abbrev F_Through_lead : Nat := 44
abbrev F_must_be_like : Nat := 45
abbrev F_Ahead___init__ : Nat := 46
abbrev F_Ahead_lead : Nat := 47
abbrev F_Ahead_is_liked : Nat := 48
abbrev F_before : Nat := 49
abbrev F_Parts___init__ : Nat := 50
abbrev F_Parts_lead : Nat := 51
abbrev F_Back___init__ : Nat := 52
abbrev F_Back_lead : Nat := 53
abbrev F_Back_is_liked : Nat := 54
abbrev F_back : Nat := 55
abbrev F_Landing___init__ : Nat := 56
abbrev F_Landing_lead : Nat := 57
abbrev F_Landing_is_liked : Nat := 58
abbrev F_Landing_is_row : Nat := 59
abbrev F_lands : Nat := 60
abbrev F_shows_lands : Nat := 61
abbrev F_is_name : Nat := 62
abbrev F_check_book : Nat := 63
abbrev F_Book___init__ : Nat := 64
abbrev F_Book_many : Nat := 65
abbrev F_Book_name : Nat := 66
abbrev F_Book_kids : Nat := 67
abbrev F_Book_number : Nat := 68
abbrev F_Book_is_like : Nat := 69
abbrev F__law_cell : Nat := 70
abbrev F__law_mix : Nat := 71
abbrev F__law_box : Nat := 72
abbrev F__law_take : Nat := 73
abbrev F__law_signs : Nat := 74
abbrev F__law_numbers : Nat := 75
abbrev F__law_made : Nat := 76
abbrev F__law_rows : Nat := 77
abbrev F__law_tables : Nat := 78
abbrev F__law_liked : Nat := 79
abbrev F__law_lead : Nat := 80
abbrev F__law_reader : Nat := 81
abbrev F__law_told : Nat := 82
abbrev F__law_other_book : Nat := 83
abbrev F__law_refusals : Nat := 84
abbrev F__law_alike_right : Nat := 85
abbrev F__law_right : Nat := 86
abbrev F_law : Nat := 87
@[simp] abbrev C_Reader : Nat := 0
@[simp] abbrev C_Turner : Nat := 1
@[simp] abbrev C_Through : Nat := 2
@[simp] abbrev C_Ahead : Nat := 3
@[simp] abbrev C_Parts : Nat := 4
@[simp] abbrev C_Back : Nat := 5
@[simp] abbrev C_Landing : Nat := 6
@[simp] abbrev C_Book : Nat := 7
abbrev M_become : Nat := 0
abbrev M_book : Nat := 1
abbrev M_moods : Nat := 2
abbrev M_table : Nat := 3
abbrev M_liked : Nat := 4
abbrev M_lead : Nat := 5
abbrev M_is_liked : Nat := 6
abbrev M_mood : Nat := 7
abbrev M_likes : Nat := 8
abbrev M_goals : Nat := 9
abbrev M_states : Nat := 10
abbrev M_row : Nat := 11
abbrev M_with_rows : Nat := 12
abbrev M_of_row : Nat := 13
abbrev M_is_row : Nat := 14
abbrev M_many : Nat := 15
abbrev M_name : Nat := 16
abbrev M_kids : Nat := 17
abbrev M_number : Nat := 18
abbrev M_is_like : Nat := 19
@[simp] abbrev A_own_book : Nat := 0
@[simp] abbrev A_own_moods : Nat := 1
@[simp] abbrev A_own_tables : Nat := 2
@[simp] abbrev A_own_liked : Nat := 3
@[simp] abbrev A_own_goals : Nat := 4
@[simp] abbrev A_own_rows : Nat := 5
@[simp] abbrev A_own_turner : Nat := 6
@[simp] abbrev A_own_inner : Nat := 7
@[simp] abbrev A_own_reader : Nat := 8
@[simp] abbrev A_own_through : Nat := 9
@[simp] abbrev A_own_parts : Nat := 10
@[simp] abbrev A_own_tree : Nat := 11
@[simp] abbrev A_own_ahead : Nat := 12
@[simp] abbrev A_own_source : Nat := 13
@[simp] abbrev A_own_goal : Nat := 14
@[simp] abbrev A_names_told : Nat := 15
@[simp] abbrev A_kids_told : Nat := 16
abbrev X_HandError : Nat := 0
abbrev X_NoBook : Nat := 1
abbrev X_NoTree : Nat := 2
abbrev X_NoPlace : Nat := 3
abbrev X_NoReader : Nat := 4
abbrev X_Unlike : Nat := 5
abbrev X_TooGreat : Nat := 6
abbrev X_NoGuesser : Nat := 7
abbrev X_NoPattern : Nat := 8
abbrev X_NoNumber : Nat := 9
abbrev X_NoTurner : Nat := 10
abbrev X_NoText : Nat := 11
abbrev X_NoLine : Nat := 12
abbrev X_NoName : Nat := 13
abbrev X_Nothing : Nat := 14
/-- end_of(book, row, start): 0=book 1=row 2=start 3=wanted 4=spot -/
def l_end_of_1 : TT.Ss := (.cons (.ite (.not (.chain .le .lt (.k (.int 0)) (.op true .ix (.cons (.v 1) (.cons (.v 4) .nil))) (.meth (.v 0) M_many .nil))) (.cons (.ret (.op true .neg (.cons (.k (.int 1)) .nil))) .nil) .nil) (.cons (.asg (.nm 3) (.op true .sub (.cons (.op true .add (.cons (.v 3) (.cons (.meth (.v 0) M_kids (.cons (.op true .ix (.cons (.v 1) (.cons (.v 4) .nil))) .nil)) .nil))) (.cons (.k (.int 1)) .nil)))) (.cons (.ite (.op true .eq (.cons (.v 3) (.cons (.k (.int 0)) .nil))) (.cons (.ret (.op true .add (.cons (.v 4) (.cons (.k (.int 1)) .nil)))) .nil) .nil) .nil)))
def u_end_of_1 (c : TT.Cxt) (n : Nat) (e : TT.Env) (s : TT.Sto) := TT.evSs_of c n e s l_end_of_1.eq_1
def b_end_of : TT.Ss := (.cons (.asg (.nm 3) (.k (.int 1))) (.cons (.for (.nm 4) (.rng2 (.v 2) (.op true .len (.cons (.v 1) .nil))) [4] l_end_of_1) (.cons (.ret (.op true .neg (.cons (.k (.int 1)) .nil))) .nil)))
def f_end_of : TT.Fn := ⟨3, 5, false, b_end_of⟩
/-- is_tree(book, tree): 0=book 1=tree -/
def b_is_tree : TT.Ss := (.cons (.ret (.bop true (.cons (.op true .le (.cons (.op true .len (.cons (.v 1) .nil)) (.cons (.g 0 (.int 40)) .nil))) (.cons (.op true .eq (.cons (.call F_end_of (.cons (.v 0) (.cons (.v 1) (.cons (.k (.int 0)) .nil)))) (.cons (.op true .len (.cons (.v 1) .nil)) .nil))) .nil)))) .nil)
def f_is_tree : TT.Fn := ⟨2, 2, false, b_is_tree⟩
/-- check_tree(book, tree): 0=book 1=tree -/
def b_check_tree : TT.Ss := (.cons (.ite (.not (.call F_is_tree (.cons (.v 0) (.cons (.v 1) .nil)))) (.cons (.raise X_NoTree) .nil) .nil) .nil)
def f_check_tree : TT.Fn := ⟨2, 2, false, b_check_tree⟩
/-- rows_in(book, row): 0=book 1=row 2=found 3=start -/
def l_rows_in_1 : TT.Ss := (.cons (.ex (.bm true .append (.v 2) (.cons (.slc true (.v 1) (.cons (.v 3) .nil) (.cons (.call F_end_of (.cons (.v 0) (.cons (.v 1) (.cons (.v 3) .nil)))) .nil)) .nil))) .nil)
def u_rows_in_1 (c : TT.Cxt) (n : Nat) (e : TT.Env) (s : TT.Sto) := TT.evSs_of c n e s l_rows_in_1.eq_1
def b_rows_in : TT.Ss := (.cons (.asg (.nm 2) (.lst false .nil)) (.cons (.for (.nm 3) (.rng1 (.op true .len (.cons (.v 1) .nil))) [3] l_rows_in_1) (.cons (.ret (.v 2)) .nil)))
def f_rows_in : TT.Fn := ⟨2, 4, false, b_rows_in⟩
/-- key_of(book, row): 0=book 1=row 2=stack 3=found 4=sign 5=size 6=turn -/
def l_key_of_1 : TT.Ss := (.cons (.asg (.nm 5) (.op true .add (.cons (.v 5) (.cons (.bm true .pop (.v 2) .nil) .nil)))) .nil)
def u_key_of_1 (c : TT.Cxt) (n : Nat) (e : TT.Env) (s : TT.Sto) := TT.evSs_of c n e s l_key_of_1.eq_1
def l_key_of_2 : TT.Ss := (.cons (.asg (.nm 5) (.k (.int 1))) (.cons (.for (.nm 6) (.rng1 (.meth (.v 0) M_kids (.cons (.v 4) .nil))) [6] l_key_of_1) (.cons (.ex (.bm true .append (.v 2) (.cons (.v 5) .nil))) (.cons (.ex (.bm true .append (.v 3) (.cons (.tup (.cons (.v 5) (.cons (.v 4) .nil))) .nil))) .nil))))
def u_key_of_2 (c : TT.Cxt) (n : Nat) (e : TT.Env) (s : TT.Sto) := TT.evSs_of c n e s l_key_of_2.eq_1
def b_key_of : TT.Ss := (.cons (.asg (.nm 2) (.lst false .nil)) (.cons (.asg (.nm 3) (.lst false .nil)) (.cons (.for (.nm 4) (.seq (.rev true (.v 1))) [4, 5, 6] l_key_of_2) (.cons (.ret (.op true .tuple (.cons (.rev true (.v 3)) .nil))) .nil))))
def f_key_of : TT.Fn := ⟨2, 7, false, b_key_of⟩
/-- parts(book, tree): 0=book 1=tree 2=found 3=row 4=key -/
def l_parts_1 : TT.Ss := (.cons (.dput (.v 2) (.call F_key_of (.cons (.v 0) (.cons (.v 3) .nil))) (.v 3)) .nil)
def u_parts_1 (c : TT.Cxt) (n : Nat) (e : TT.Env) (s : TT.Sto) := TT.evSs_of c n e s l_parts_1.eq_1
def b_parts : TT.Ss := (.cons (.ex (.call F_check_tree (.cons (.v 0) (.cons (.v 1) .nil)))) (.cons (.asg (.nm 2) (.dic false 3)) (.cons (.for (.nm 3) (.seq (.call F_rows_in (.cons (.v 0) (.cons (.v 1) .nil)))) [3] l_parts_1) (.cons (.ret (.lc true [4] (.nm 4) (.seq (.op true .sorted (.cons (.v 2) .nil))) .nil (.op true .dget (.cons (.v 2) (.cons (.v 4) .nil))))) .nil))))
def f_parts : TT.Fn := ⟨2, 5, false, b_parts⟩
/-- is_rising(numbers, bound): 0=numbers 1=bound 2=last 3=number -/
def l_is_rising_1 : TT.Ss := (.cons (.ite (.not (.chain .lt .lt (.v 2) (.v 3) (.v 1))) (.cons (.ret (.k (.bl false))) .nil) .nil) (.cons (.asg (.nm 2) (.v 3)) .nil))
def u_is_rising_1 (c : TT.Cxt) (n : Nat) (e : TT.Env) (s : TT.Sto) := TT.evSs_of c n e s l_is_rising_1.eq_1
def b_is_rising : TT.Ss := (.cons (.asg (.nm 2) (.op true .neg (.cons (.k (.int 1)) .nil))) (.cons (.for (.nm 3) (.seq (.v 0)) [3] l_is_rising_1) (.cons (.ret (.k (.bl true))) .nil)))
def f_is_rising : TT.Fn := ⟨2, 4, false, b_is_rising⟩
/-- are_tables(book, moods, tables): 0=book 1=moods 2=tables 3=sign 4=mood -/
def l_are_tables_1 : TT.Ss := (.cons (.ite (.op true .ne (.cons (.op true .len (.cons (.op true .ix (.cons (.v 2) (.cons (.v 3) .nil))) .nil)) (.cons (.op true .ix (.cons (.lst true (.cons (.k (.int 1)) (.cons (.v 1) (.cons (.op true .mul (.cons (.v 1) (.cons (.v 1) .nil))) .nil)))) (.cons (.meth (.v 0) M_kids (.cons (.v 3) .nil)) .nil))) .nil))) (.cons (.ret (.k (.bl false))) .nil) .nil) (.cons (.ite (.not (.op true .all (.cons (.lc true [4] (.nm 4) (.seq (.op true .ix (.cons (.v 2) (.cons (.v 3) .nil)))) .nil (.chain .le .lt (.k (.int 0)) (.v 4) (.v 1))) .nil))) (.cons (.ret (.k (.bl false))) .nil) .nil) .nil))
def u_are_tables_1 (c : TT.Cxt) (n : Nat) (e : TT.Env) (s : TT.Sto) := TT.evSs_of c n e s l_are_tables_1.eq_1
def b_are_tables : TT.Ss := (.cons (.ite (.op true .ne (.cons (.op true .len (.cons (.v 2) .nil)) (.cons (.meth (.v 0) M_many .nil) .nil))) (.cons (.ret (.k (.bl false))) .nil) .nil) (.cons (.for (.nm 3) (.rng1 (.meth (.v 0) M_many .nil)) [3] l_are_tables_1) (.cons (.ret (.k (.bl true))) .nil)))
def f_are_tables : TT.Fn := ⟨3, 5, false, b_are_tables⟩
/-- Reader.__init__(self, book, moods, tables, liked): 0=self 1=book 2=moods 3=tables 4=liked -/
def b_Reader___init__ : TT.Ss := (.cons (.ite (.bop false (.cons (.not (.chain .le .le (.k (.int 1)) (.v 2) (.g 0 (.int 6)))) (.cons (.not (.call F_are_tables (.cons (.v 1) (.cons (.v 2) (.cons (.v 3) .nil))))) (.cons (.not (.call F_is_rising (.cons (.v 4) (.cons (.v 2) .nil)))) .nil)))) (.cons (.raise X_NoReader) .nil) .nil) (.cons (.fld (.v 0) A_own_book (.v 1)) (.cons (.ex (.meth (.v 0) M_become (.cons (.v 2) (.cons (.v 3) (.cons (.v 4) .nil))))) .nil)))
def f_Reader___init__ : TT.Fn := ⟨5, 5, false, b_Reader___init__⟩
/-- Reader.become(self, moods, tables, liked): 0=self 1=moods 2=tables 3=liked 4=table -/
def b_Reader_become : TT.Ss := (.cons (.fld (.v 0) A_own_moods (.v 1)) (.cons (.fld (.v 0) A_own_tables (.lc true [4] (.nm 4) (.seq (.v 2)) .nil (.op true .list (.cons (.v 4) .nil)))) (.cons (.fld (.v 0) A_own_liked (.op true .list (.cons (.v 3) .nil))) .nil)))
def f_Reader_become : TT.Fn := ⟨4, 5, false, b_Reader_become⟩
/-- Reader.book(self): 0=self -/
def b_Reader_book : TT.Ss := (.cons (.ret (.attr (.v 0) A_own_book)) .nil)
def f_Reader_book : TT.Fn := ⟨1, 1, false, b_Reader_book⟩
/-- Reader.moods(self): 0=self -/
def b_Reader_moods : TT.Ss := (.cons (.ret (.attr (.v 0) A_own_moods)) .nil)
def f_Reader_moods : TT.Fn := ⟨1, 1, false, b_Reader_moods⟩
/-- Reader.table(self, sign): 0=self 1=sign -/
def b_Reader_table : TT.Ss := (.cons (.ret (.op true .list (.cons (.op true .ix (.cons (.attr (.v 0) A_own_tables) (.cons (.v 1) .nil))) .nil))) .nil)
def f_Reader_table : TT.Fn := ⟨2, 2, false, b_Reader_table⟩
/-- Reader.liked(self): 0=self -/
def b_Reader_liked : TT.Ss := (.cons (.ret (.op true .list (.cons (.attr (.v 0) A_own_liked) .nil))) .nil)
def f_Reader_liked : TT.Fn := ⟨1, 1, false, b_Reader_liked⟩
/-- Reader.lead(self, sign, kids): 0=self 1=sign 2=kids 3=spot 4=mood -/
def l_Reader_lead_1 : TT.Ss := (.cons (.asg (.nm 3) (.op true .add (.cons (.op true .mul (.cons (.v 3) (.cons (.attr (.v 0) A_own_moods) .nil))) (.cons (.v 4) .nil)))) .nil)
def u_Reader_lead_1 (c : TT.Cxt) (n : Nat) (e : TT.Env) (s : TT.Sto) := TT.evSs_of c n e s l_Reader_lead_1.eq_1
def b_Reader_lead : TT.Ss := (.cons (.asg (.nm 3) (.k (.int 0))) (.cons (.for (.nm 4) (.seq (.v 2)) [4] l_Reader_lead_1) (.cons (.ret (.op true .ix (.cons (.op true .ix (.cons (.attr (.v 0) A_own_tables) (.cons (.v 1) .nil))) (.cons (.v 3) .nil)))) .nil)))
def f_Reader_lead : TT.Fn := ⟨3, 5, false, b_Reader_lead⟩
/-- Reader.is_liked(self, mood): 0=self 1=mood -/
def b_Reader_is_liked : TT.Ss := (.cons (.ret (.op true .inS (.cons (.v 1) (.cons (.attr (.v 0) A_own_liked) .nil)))) .nil)
def f_Reader_is_liked : TT.Fn := ⟨2, 2, false, b_Reader_is_liked⟩
/-- Reader.mood(self, tree): 0=self 1=tree -/
def b_Reader_mood : TT.Ss := (.cons (.ex (.call F_check_tree (.cons (.attr (.v 0) A_own_book) (.cons (.v 1) .nil)))) (.cons (.ret (.call F_read_by (.cons (.attr (.v 0) A_own_book) (.cons (.v 0) (.cons (.v 1) .nil))))) .nil))
def f_Reader_mood : TT.Fn := ⟨2, 2, false, b_Reader_mood⟩
/-- Reader.likes(self, tree): 0=self 1=tree -/
def b_Reader_likes : TT.Ss := (.cons (.ret (.meth (.v 0) M_is_liked (.cons (.meth (.v 0) M_mood (.cons (.v 1) .nil)) .nil))) .nil)
def f_Reader_likes : TT.Fn := ⟨2, 2, false, b_Reader_likes⟩
/-- read_by(book, hand, row): 0=book 1=hand 2=row 3=stack 4=sign 5=kids 6=turn -/
def l_read_by_1 : TT.Ss := (.cons (.asg (.nm 5) (.op true .add (.cons (.v 5) (.cons (.tup (.cons (.bm true .pop (.v 3) .nil) .nil)) .nil)))) .nil)
def u_read_by_1 (c : TT.Cxt) (n : Nat) (e : TT.Env) (s : TT.Sto) := TT.evSs_of c n e s l_read_by_1.eq_1
def l_read_by_2 : TT.Ss := (.cons (.asg (.nm 5) (.tup .nil)) (.cons (.for (.nm 6) (.rng1 (.meth (.v 0) M_kids (.cons (.v 4) .nil))) [6] l_read_by_1) (.cons (.ex (.bm true .append (.v 3) (.cons (.meth (.v 1) M_lead (.cons (.v 4) (.cons (.v 5) .nil))) .nil))) .nil)))
def u_read_by_2 (c : TT.Cxt) (n : Nat) (e : TT.Env) (s : TT.Sto) := TT.evSs_of c n e s l_read_by_2.eq_1
def b_read_by : TT.Ss := (.cons (.asg (.nm 3) (.lst false .nil)) (.cons (.for (.nm 4) (.seq (.rev true (.v 2))) [4, 5, 6] l_read_by_2) (.cons (.ret (.op true .ix (.cons (.v 3) (.cons (.k (.int 0)) .nil)))) .nil)))
def f_read_by : TT.Fn := ⟨3, 7, false, b_read_by⟩
/-- told_reader(book, moods, tables, liked): 0=book 1=moods 2=tables 3=liked 4=found 5=sign -/
def b_told_reader : TT.Ss := (.cons (.asg (.nm 4) (.new false C_Reader (.cons (.v 0) (.cons (.k (.int 1)) (.cons (.lc true [5] (.nm 5) (.rng1 (.meth (.v 0) M_many .nil)) .nil (.lst true (.cons (.k (.int 0)) .nil))) (.cons (.lst true .nil) .nil)))))) (.cons (.ex (.meth (.v 4) M_become (.cons (.v 1) (.cons (.v 2) (.cons (.v 3) .nil))))) (.cons (.ret (.v 4)) .nil)))
def f_told_reader : TT.Fn := ⟨4, 6, false, b_told_reader⟩
/-- choices(things, count): 0=things 1=count 2=rows 3=turn 4=longer 5=row 6=thing -/
def l_choices_1 : TT.Ss := (.cons (.ex (.bm true .extend (.v 4) (.cons (.lc true [6] (.nm 6) (.seq (.v 0)) .nil (.op true .add (.cons (.v 5) (.cons (.tup (.cons (.v 6) .nil)) .nil)))) .nil))) .nil)
def u_choices_1 (c : TT.Cxt) (n : Nat) (e : TT.Env) (s : TT.Sto) := TT.evSs_of c n e s l_choices_1.eq_1
def l_choices_2 : TT.Ss := (.cons (.asg (.nm 4) (.lst false .nil)) (.cons (.for (.nm 5) (.seq (.v 2)) [5] l_choices_1) (.cons (.asg (.nm 2) (.v 4)) .nil)))
def u_choices_2 (c : TT.Cxt) (n : Nat) (e : TT.Env) (s : TT.Sto) := TT.evSs_of c n e s l_choices_2.eq_1
def b_choices : TT.Ss := (.cons (.asg (.nm 2) (.lst true (.cons (.tup .nil) .nil))) (.cons (.for (.nm 3) (.rng1 (.v 1)) [3, 4, 5] l_choices_2) (.cons (.ret (.v 2)) .nil)))
def f_choices : TT.Fn := ⟨2, 7, false, b_choices⟩
/-- reached(book, hand): 0=book 1=hand 2=found 3=seen 4=sign 5=spot 6=other -/
def l_reached_1 : TT.Ss := (.cons (.ite (.op true .eq (.cons (.meth (.v 0) M_kids (.cons (.v 4) .nil)) (.cons (.k (.int 0)) .nil))) (.cons (.ex (.call F_add (.cons (.v 2) (.cons (.v 3) (.cons (.meth (.v 1) M_lead (.cons (.v 4) (.cons (.tup .nil) .nil))) .nil))))) .nil) .nil) .nil)
def u_reached_1 (c : TT.Cxt) (n : Nat) (e : TT.Env) (s : TT.Sto) := TT.evSs_of c n e s l_reached_1.eq_1
def l_reached_2 : TT.Ss := (.cons (.ex (.call F_add (.cons (.v 2) (.cons (.v 3) (.cons (.meth (.v 1) M_lead (.cons (.v 4) (.cons (.tup (.cons (.op true .ix (.cons (.v 2) (.cons (.v 5) .nil))) (.cons (.op true .ix (.cons (.v 2) (.cons (.v 6) .nil))) .nil))) .nil))) .nil))))) (.cons (.ex (.call F_add (.cons (.v 2) (.cons (.v 3) (.cons (.meth (.v 1) M_lead (.cons (.v 4) (.cons (.tup (.cons (.op true .ix (.cons (.v 2) (.cons (.v 6) .nil))) (.cons (.op true .ix (.cons (.v 2) (.cons (.v 5) .nil))) .nil))) .nil))) .nil))))) .nil))
def u_reached_2 (c : TT.Cxt) (n : Nat) (e : TT.Env) (s : TT.Sto) := TT.evSs_of c n e s l_reached_2.eq_1
def l_reached_3 : TT.Ss := (.cons (.ite (.op true .eq (.cons (.meth (.v 0) M_kids (.cons (.v 4) .nil)) (.cons (.k (.int 1)) .nil))) (.cons (.ex (.call F_add (.cons (.v 2) (.cons (.v 3) (.cons (.meth (.v 1) M_lead (.cons (.v 4) (.cons (.tup (.cons (.op true .ix (.cons (.v 2) (.cons (.v 5) .nil))) .nil)) .nil))) .nil))))) .nil) .nil) (.cons (.ite (.op true .eq (.cons (.meth (.v 0) M_kids (.cons (.v 4) .nil)) (.cons (.k (.int 2)) .nil))) (.cons (.for (.nm 6) (.rng1 (.op true .add (.cons (.v 5) (.cons (.k (.int 1)) .nil)))) [6] l_reached_2) .nil) .nil) .nil))
def u_reached_3 (c : TT.Cxt) (n : Nat) (e : TT.Env) (s : TT.Sto) := TT.evSs_of c n e s l_reached_3.eq_1
def l_reached_4 : TT.Ss := (.cons (.for (.nm 4) (.rng1 (.meth (.v 0) M_many .nil)) [4, 6] l_reached_3) (.cons (.asg (.nm 5) (.op true .add (.cons (.v 5) (.cons (.k (.int 1)) .nil)))) .nil))
def u_reached_4 (c : TT.Cxt) (n : Nat) (e : TT.Env) (s : TT.Sto) := TT.evSs_of c n e s l_reached_4.eq_1
def b_reached : TT.Ss := (.cons (.asg (.nm 2) (.lst false .nil)) (.cons (.asg (.nm 3) (.dic false 3)) (.cons (.for (.nm 4) (.rng1 (.meth (.v 0) M_many .nil)) [4] l_reached_1) (.cons (.asg (.nm 5) (.k (.int 0))) (.cons (.whl 1000000 (.op true .lt (.cons (.v 5) (.cons (.op true .len (.cons (.v 2) .nil)) .nil))) [4, 6] l_reached_4) (.cons (.ret (.v 2)) .nil))))))
def f_reached : TT.Fn := ⟨2, 7, false, b_reached⟩
/-- add(found, seen, raw): 0=found 1=seen 2=raw -/
def b_add : TT.Ss := (.cons (.ite (.op true .ninD (.cons (.v 2) (.cons (.v 1) .nil))) (.cons (.dput (.v 1) (.v 2) (.k (.bl true))) (.cons (.ex (.bm true .append (.v 0) (.cons (.v 2) .nil))) .nil)) .nil) .nil)
def f_add : TT.Fn := ⟨3, 3, false, b_add⟩
/-- offer(waits, raw, way): 0=waits 1=raw 2=way -/
def b_offer : TT.Ss := (.cons (.ite (.bop false (.cons (.op true .ninD (.cons (.v 1) (.cons (.v 0) .nil))) (.cons (.op true .lt (.cons (.v 2) (.cons (.op true .dget (.cons (.v 0) (.cons (.v 1) .nil))) .nil))) .nil))) (.cons (.dput (.v 0) (.v 1) (.v 2)) .nil) .nil) .nil)
def f_offer : TT.Fn := ⟨3, 3, false, b_offer⟩
/-- offer_by(book, hand, waits, done, sizes): 0=book 1=hand 2=waits 3=done 4=sizes 5=last 6=sign 7=other 8=size -/
def l_offer_by_1 : TT.Ss := (.cons (.asg (.nm 8) (.op true .add (.cons (.op true .add (.cons (.op true .ix (.cons (.v 4) (.cons (.v 5) .nil))) (.cons (.op true .ix (.cons (.v 4) (.cons (.v 7) .nil))) .nil))) (.cons (.k (.int 1)) .nil)))) (.cons (.ex (.call F_offer (.cons (.v 2) (.cons (.meth (.v 1) M_lead (.cons (.v 6) (.cons (.tup (.cons (.op true .ix (.cons (.v 3) (.cons (.v 5) .nil))) (.cons (.op true .ix (.cons (.v 3) (.cons (.v 7) .nil))) .nil))) .nil))) (.cons (.tup (.cons (.v 8) (.cons (.v 6) (.cons (.tup (.cons (.v 5) (.cons (.v 7) .nil))) .nil)))) .nil))))) (.cons (.ex (.call F_offer (.cons (.v 2) (.cons (.meth (.v 1) M_lead (.cons (.v 6) (.cons (.tup (.cons (.op true .ix (.cons (.v 3) (.cons (.v 7) .nil))) (.cons (.op true .ix (.cons (.v 3) (.cons (.v 5) .nil))) .nil))) .nil))) (.cons (.tup (.cons (.v 8) (.cons (.v 6) (.cons (.tup (.cons (.v 7) (.cons (.v 5) .nil))) .nil)))) .nil))))) .nil)))
def u_offer_by_1 (c : TT.Cxt) (n : Nat) (e : TT.Env) (s : TT.Sto) := TT.evSs_of c n e s l_offer_by_1.eq_1
def l_offer_by_2 : TT.Ss := (.cons (.ite (.op true .eq (.cons (.meth (.v 0) M_kids (.cons (.v 6) .nil)) (.cons (.k (.int 1)) .nil))) (.cons (.ex (.call F_offer (.cons (.v 2) (.cons (.meth (.v 1) M_lead (.cons (.v 6) (.cons (.tup (.cons (.op true .ix (.cons (.v 3) (.cons (.v 5) .nil))) .nil)) .nil))) (.cons (.tup (.cons (.op true .add (.cons (.op true .ix (.cons (.v 4) (.cons (.v 5) .nil))) (.cons (.k (.int 1)) .nil))) (.cons (.v 6) (.cons (.tup (.cons (.v 5) .nil)) .nil)))) .nil))))) .nil) .nil) (.cons (.ite (.op true .eq (.cons (.meth (.v 0) M_kids (.cons (.v 6) .nil)) (.cons (.k (.int 2)) .nil))) (.cons (.for (.nm 7) (.rng1 (.op true .add (.cons (.v 5) (.cons (.k (.int 1)) .nil)))) [7, 8] l_offer_by_1) .nil) .nil) .nil))
def u_offer_by_2 (c : TT.Cxt) (n : Nat) (e : TT.Env) (s : TT.Sto) := TT.evSs_of c n e s l_offer_by_2.eq_1
def b_offer_by : TT.Ss := (.cons (.asg (.nm 5) (.op true .sub (.cons (.op true .len (.cons (.v 3) .nil)) (.cons (.k (.int 1)) .nil)))) (.cons (.for (.nm 6) (.rng1 (.meth (.v 0) M_many .nil)) [6, 7, 8] l_offer_by_2) .nil))
def f_offer_by : TT.Fn := ⟨5, 9, false, b_offer_by⟩
/-- next_way(waits, seen): 0=waits 1=seen 2=best 3=raw -/
def l_next_way_1 : TT.Ss := (.cons (.ite (.bop true (.cons (.op true .ninD (.cons (.v 3) (.cons (.v 1) .nil))) (.cons (.bop false (.cons (.op true .isN (.cons (.v 2) (.cons (.k .non) .nil))) (.cons (.op true .lt (.cons (.op true .dget (.cons (.v 0) (.cons (.v 3) .nil))) (.cons (.op true .ix (.cons (.v 2) (.cons (.k (.int 0)) .nil))) .nil))) .nil))) .nil))) (.cons (.asg (.nm 2) (.tup (.cons (.op true .dget (.cons (.v 0) (.cons (.v 3) .nil))) (.cons (.v 3) .nil)))) .nil) .nil) .nil)
def u_next_way_1 (c : TT.Cxt) (n : Nat) (e : TT.Env) (s : TT.Sto) := TT.evSs_of c n e s l_next_way_1.eq_1
def b_next_way : TT.Ss := (.cons (.asg (.nm 2) (.k .non)) (.cons (.for (.nm 3) (.seq (.v 0)) [3] l_next_way_1) (.cons (.ret (.v 2)) .nil)))
def f_next_way : TT.Fn := ⟨2, 4, false, b_next_way⟩
/-- firsts(book, hand): 0=book 1=hand 2=waits 3=seen 4=done 5=sizes 6=rows 7=sign 8=found 9=spot 10=row 11=way 12=raw -/
def l_firsts_1 : TT.Ss := (.cons (.ite (.op true .eq (.cons (.meth (.v 0) M_kids (.cons (.v 7) .nil)) (.cons (.k (.int 0)) .nil))) (.cons (.ex (.call F_offer (.cons (.v 2) (.cons (.meth (.v 1) M_lead (.cons (.v 7) (.cons (.tup .nil) .nil))) (.cons (.tup (.cons (.k (.int 1)) (.cons (.v 7) (.cons (.tup .nil) .nil)))) .nil))))) .nil) .nil) .nil)
def u_firsts_1 (c : TT.Cxt) (n : Nat) (e : TT.Env) (s : TT.Sto) := TT.evSs_of c n e s l_firsts_1.eq_1
def l_firsts_2 : TT.Ss := (.cons (.asg (.nm 10) (.op true .add (.cons (.v 10) (.cons (.op true .ix (.cons (.v 6) (.cons (.v 9) .nil))) .nil)))) .nil)
def u_firsts_2 (c : TT.Cxt) (n : Nat) (e : TT.Env) (s : TT.Sto) := TT.evSs_of c n e s l_firsts_2.eq_1
def l_firsts_3 : TT.Ss := (.cons (.asg (.tp [11, 12]) (.call F_next_way (.cons (.v 2) (.cons (.v 3) .nil)))) (.cons (.dput (.v 3) (.v 12) (.k (.bl true))) (.cons (.ex (.bm true .append (.v 4) (.cons (.v 12) .nil))) (.cons (.ex (.bm true .append (.v 5) (.cons (.op true .ix (.cons (.v 11) (.cons (.k (.int 0)) .nil))) .nil))) (.cons (.asg (.nm 10) (.k .non)) (.cons (.ite (.op true .le (.cons (.op true .ix (.cons (.v 11) (.cons (.k (.int 0)) .nil))) (.cons (.g 0 (.int 200)) .nil))) (.cons (.asg (.nm 10) (.tup (.cons (.op true .ix (.cons (.v 11) (.cons (.k (.int 1)) .nil))) .nil))) (.cons (.for (.nm 9) (.seq (.op true .ix (.cons (.v 11) (.cons (.k (.int 2)) .nil)))) [9] l_firsts_2) .nil)) .nil) (.cons (.ex (.bm true .append (.v 6) (.cons (.v 10) .nil))) (.cons (.ex (.call F_offer_by (.cons (.v 0) (.cons (.v 1) (.cons (.v 2) (.cons (.v 4) (.cons (.v 5) .nil))))))) .nil))))))))
def u_firsts_3 (c : TT.Cxt) (n : Nat) (e : TT.Env) (s : TT.Sto) := TT.evSs_of c n e s l_firsts_3.eq_1
def l_firsts_4 : TT.Ss := (.cons (.dput (.v 8) (.op true .ix (.cons (.v 4) (.cons (.v 9) .nil))) (.tup (.cons (.op true .ix (.cons (.v 5) (.cons (.v 9) .nil))) (.cons (.op true .ix (.cons (.v 6) (.cons (.v 9) .nil))) .nil)))) .nil)
def u_firsts_4 (c : TT.Cxt) (n : Nat) (e : TT.Env) (s : TT.Sto) := TT.evSs_of c n e s l_firsts_4.eq_1
def b_firsts : TT.Ss := (.cons (.asg (.nm 2) (.dic false 3)) (.cons (.asg (.nm 3) (.dic false 3)) (.cons (.asg (.nm 4) (.lst false .nil)) (.cons (.asg (.nm 5) (.lst false .nil)) (.cons (.asg (.nm 6) (.lst false .nil)) (.cons (.for (.nm 7) (.rng1 (.meth (.v 0) M_many .nil)) [7] l_firsts_1) (.cons (.whl 1000000 (.op true .lt (.cons (.op true .len (.cons (.v 4) .nil)) (.cons (.op true .lenD (.cons (.v 2) .nil)) .nil))) [9, 10, 11, 12] l_firsts_3) (.cons (.asg (.nm 8) (.dic false 3)) (.cons (.for (.nm 9) (.rng1 (.op true .len (.cons (.v 4) .nil))) [9] l_firsts_4) (.cons (.ret (.v 8)) .nil))))))))))
def f_firsts : TT.Fn := ⟨2, 13, false, b_firsts⟩
/-- first_of(book, found, hand): 0=book 1=found 2=hand 3=raw -/
def l_first_of_1 : TT.Ss := (.cons (.ite (.meth (.v 2) M_is_liked (.cons (.v 3) .nil)) (.cons (.ite (.op true .isN (.cons (.op true .ix (.cons (.op true .dget (.cons (.v 1) (.cons (.v 3) .nil))) (.cons (.k (.int 1)) .nil))) (.cons (.k .non) .nil))) (.cons (.raise X_TooGreat) .nil) .nil) (.cons (.ret (.op true .ix (.cons (.op true .dget (.cons (.v 1) (.cons (.v 3) .nil))) (.cons (.k (.int 1)) .nil)))) .nil)) .nil) .nil)
def u_first_of_1 (c : TT.Cxt) (n : Nat) (e : TT.Env) (s : TT.Sto) := TT.evSs_of c n e s l_first_of_1.eq_1
def b_first_of : TT.Ss := (.cons (.for (.nm 3) (.seq (.v 1)) [3] l_first_of_1) (.cons (.ret (.k .non)) .nil))
def f_first_of : TT.Fn := ⟨3, 4, false, b_first_of⟩
/-- targets(book, hand, raws): 0=book 1=hand 2=raws 3=numbers 4=raw 5=found 6=sign 7=row -/
def l_targets_1 : TT.Ss := (.cons (.dput (.v 3) (.v 4) (.op true .lenD (.cons (.v 3) .nil))) .nil)
def u_targets_1 (c : TT.Cxt) (n : Nat) (e : TT.Env) (s : TT.Sto) := TT.evSs_of c n e s l_targets_1.eq_1
def l_targets_2 : TT.Ss := (.cons (.ex (.bm true .append (.v 5) (.cons (.lc true [7] (.nm 7) (.seq (.call F_choices (.cons (.v 2) (.cons (.meth (.v 0) M_kids (.cons (.v 6) .nil)) .nil)))) .nil (.op true .dget (.cons (.v 3) (.cons (.meth (.v 1) M_lead (.cons (.v 6) (.cons (.v 7) .nil))) .nil)))) .nil))) .nil)
def u_targets_2 (c : TT.Cxt) (n : Nat) (e : TT.Env) (s : TT.Sto) := TT.evSs_of c n e s l_targets_2.eq_1
def b_targets : TT.Ss := (.cons (.asg (.nm 3) (.dic false 3)) (.cons (.for (.nm 4) (.seq (.v 2)) [4] l_targets_1) (.cons (.asg (.nm 5) (.lst false .nil)) (.cons (.for (.nm 6) (.rng1 (.meth (.v 0) M_many .nil)) [6] l_targets_2) (.cons (.ret (.v 5)) .nil)))))
def f_targets : TT.Fn := ⟨3, 8, false, b_targets⟩
/-- marks_of(tables, kinds): 0=tables 1=kinds 2=total 3=found 4=mood 5=marks 6=table 7=other -/
def l_marks_of_1 : TT.Ss := (.cons (.ex (.bm true .append (.v 5) (.cons (.op true .ix (.cons (.v 1) (.cons (.op true .ix (.cons (.v 6) (.cons (.op true .add (.cons (.op true .mul (.cons (.v 4) (.cons (.v 2) .nil))) (.cons (.v 7) .nil))) .nil))) .nil))) .nil))) (.cons (.ex (.bm true .append (.v 5) (.cons (.op true .ix (.cons (.v 1) (.cons (.op true .ix (.cons (.v 6) (.cons (.op true .add (.cons (.op true .mul (.cons (.v 7) (.cons (.v 2) .nil))) (.cons (.v 4) .nil))) .nil))) .nil))) .nil))) .nil))
def u_marks_of_1 (c : TT.Cxt) (n : Nat) (e : TT.Env) (s : TT.Sto) := TT.evSs_of c n e s l_marks_of_1.eq_1
def l_marks_of_2 : TT.Ss := (.cons (.ite (.bop true (.cons (.op true .eq (.cons (.op true .len (.cons (.v 6) .nil)) (.cons (.v 2) .nil))) (.cons (.op true .gt (.cons (.v 2) (.cons (.k (.int 1)) .nil))) .nil))) (.cons (.ex (.bm true .append (.v 5) (.cons (.op true .ix (.cons (.v 1) (.cons (.op true .ix (.cons (.v 6) (.cons (.v 4) .nil))) .nil))) .nil))) .nil) .nil) (.cons (.ite (.bop true (.cons (.op true .eq (.cons (.op true .len (.cons (.v 6) .nil)) (.cons (.op true .mul (.cons (.v 2) (.cons (.v 2) .nil))) .nil))) (.cons (.op true .gt (.cons (.v 2) (.cons (.k (.int 1)) .nil))) .nil))) (.cons (.for (.nm 7) (.rng1 (.v 2)) [7] l_marks_of_1) .nil) .nil) .nil))
def u_marks_of_2 (c : TT.Cxt) (n : Nat) (e : TT.Env) (s : TT.Sto) := TT.evSs_of c n e s l_marks_of_2.eq_1
def l_marks_of_3 : TT.Ss := (.cons (.asg (.nm 5) (.lst false (.cons (.op true .ix (.cons (.v 1) (.cons (.v 4) .nil))) .nil))) (.cons (.for (.nm 6) (.seq (.v 0)) [6, 7] l_marks_of_2) (.cons (.ex (.bm true .append (.v 3) (.cons (.op true .tuple (.cons (.v 5) .nil)) .nil))) .nil)))
def u_marks_of_3 (c : TT.Cxt) (n : Nat) (e : TT.Env) (s : TT.Sto) := TT.evSs_of c n e s l_marks_of_3.eq_1
def b_marks_of : TT.Ss := (.cons (.asg (.nm 2) (.op true .len (.cons (.v 1) .nil))) (.cons (.asg (.nm 3) (.lst false .nil)) (.cons (.for (.nm 4) (.rng1 (.v 2)) [4, 5, 6, 7] l_marks_of_3) (.cons (.ret (.v 3)) .nil))))
def f_marks_of : TT.Fn := ⟨2, 8, false, b_marks_of⟩
/-- kinds_of(tables, kinds): 0=tables 1=kinds 2=count 3=numbers 4=found 5=mark -/
def l_kinds_of_1 : TT.Ss := (.cons (.ite (.op true .ninD (.cons (.v 5) (.cons (.v 3) .nil))) (.cons (.dput (.v 3) (.v 5) (.op true .lenD (.cons (.v 3) .nil))) .nil) .nil) (.cons (.ex (.bm true .append (.v 4) (.cons (.op true .dget (.cons (.v 3) (.cons (.v 5) .nil))) .nil))) .nil))
def u_kinds_of_1 (c : TT.Cxt) (n : Nat) (e : TT.Env) (s : TT.Sto) := TT.evSs_of c n e s l_kinds_of_1.eq_1
def l_kinds_of_2 : TT.Ss := (.cons (.asg (.nm 2) (.op true .add (.cons (.op true .max1 (.cons (.v 1) .nil)) (.cons (.k (.int 1)) .nil)))) (.cons (.asg (.nm 3) (.dic false 3)) (.cons (.asg (.nm 4) (.lst false .nil)) (.cons (.for (.nm 5) (.seq (.call F_marks_of (.cons (.v 0) (.cons (.v 1) .nil)))) [5] l_kinds_of_1) (.cons (.asg (.nm 1) (.v 4)) .nil)))))
def u_kinds_of_2 (c : TT.Cxt) (n : Nat) (e : TT.Env) (s : TT.Sto) := TT.evSs_of c n e s l_kinds_of_2.eq_1
def b_kinds_of : TT.Ss := (.cons (.asg (.nm 2) (.k (.int 0))) (.cons (.whl 1000000 (.op true .gt (.cons (.op true .add (.cons (.op true .max1 (.cons (.v 1) .nil)) (.cons (.k (.int 1)) .nil))) (.cons (.v 2) .nil))) [3, 4, 5] l_kinds_of_2) (.cons (.ret (.v 1)) .nil)))
def f_kinds_of : TT.Fn := ⟨2, 6, false, b_kinds_of⟩
/-- spots_of(count, total, numbered): 0=count 1=total 2=numbered 3=row -/
def b_spots_of : TT.Ss := (.cons (.ret (.lc true [3] (.nm 3) (.seq (.call F_choices (.cons (.v 2) (.cons (.v 0) .nil)))) .nil (.call F_sum_up (.cons (.v 3) (.cons (.v 1) .nil))))) .nil)
def f_spots_of : TT.Fn := ⟨3, 4, false, b_spots_of⟩
/-- sum_up(row, total): 0=row 1=total 2=spot 3=mood -/
def l_sum_up_1 : TT.Ss := (.cons (.asg (.nm 2) (.op true .add (.cons (.op true .mul (.cons (.v 2) (.cons (.v 1) .nil))) (.cons (.v 3) .nil)))) .nil)
def u_sum_up_1 (c : TT.Cxt) (n : Nat) (e : TT.Env) (s : TT.Sto) := TT.evSs_of c n e s l_sum_up_1.eq_1
def b_sum_up : TT.Ss := (.cons (.asg (.nm 2) (.k (.int 0))) (.cons (.for (.nm 3) (.seq (.v 0)) [3] l_sum_up_1) (.cons (.ret (.v 2)) .nil)))
def f_sum_up : TT.Fn := ⟨2, 4, false, b_sum_up⟩
/-- next_mood(book, tables, kinds, numbered): 0=book 1=tables 2=kinds 3=numbered 4=have 5=mood 6=sign 7=spot -/
def l_next_mood_1 : TT.Ss := (.cons (.dput (.v 4) (.op true .ix (.cons (.v 2) (.cons (.v 5) .nil))) (.k (.bl true))) .nil)
def u_next_mood_1 (c : TT.Cxt) (n : Nat) (e : TT.Env) (s : TT.Sto) := TT.evSs_of c n e s l_next_mood_1.eq_1
def l_next_mood_2 : TT.Ss := (.cons (.ite (.op true .ninD (.cons (.op true .ix (.cons (.v 2) (.cons (.op true .ix (.cons (.op true .ix (.cons (.v 1) (.cons (.v 6) .nil))) (.cons (.v 7) .nil))) .nil))) (.cons (.v 4) .nil))) (.cons (.ret (.op true .ix (.cons (.op true .ix (.cons (.v 1) (.cons (.v 6) .nil))) (.cons (.v 7) .nil)))) .nil) .nil) .nil)
def u_next_mood_2 (c : TT.Cxt) (n : Nat) (e : TT.Env) (s : TT.Sto) := TT.evSs_of c n e s l_next_mood_2.eq_1
def l_next_mood_3 : TT.Ss := (.cons (.for (.nm 7) (.seq (.call F_spots_of (.cons (.meth (.v 0) M_kids (.cons (.v 6) .nil)) (.cons (.op true .len (.cons (.v 2) .nil)) (.cons (.v 3) .nil))))) [7] l_next_mood_2) .nil)
def u_next_mood_3 (c : TT.Cxt) (n : Nat) (e : TT.Env) (s : TT.Sto) := TT.evSs_of c n e s l_next_mood_3.eq_1
def b_next_mood : TT.Ss := (.cons (.asg (.nm 4) (.dic false 3)) (.cons (.for (.nm 5) (.seq (.v 3)) [5] l_next_mood_1) (.cons (.for (.nm 6) (.rng1 (.meth (.v 0) M_many .nil)) [6, 7] l_next_mood_3) (.cons (.ret (.k .non)) .nil))))
def f_next_mood : TT.Fn := ⟨4, 8, false, b_next_mood⟩
/-- made(book, hand): 0=book 1=hand 2=raws 3=tables 4=likings 5=kinds 6=numbered 7=mood 8=numbers 9=told 10=sign 11=liked 12=spots 13=raw 14=spot 15=liking -/
def l_made_1 : TT.Ss := (.cons (.ex (.bm true .append (.v 6) (.cons (.v 7) .nil))) (.cons (.asg (.nm 7) (.call F_next_mood (.cons (.v 0) (.cons (.v 3) (.cons (.v 5) (.cons (.v 6) .nil)))))) .nil))
def u_made_1 (c : TT.Cxt) (n : Nat) (e : TT.Env) (s : TT.Sto) := TT.evSs_of c n e s l_made_1.eq_1
def l_made_2 : TT.Ss := (.cons (.dput (.v 8) (.op true .ix (.cons (.v 5) (.cons (.v 7) .nil))) (.op true .lenD (.cons (.v 8) .nil))) .nil)
def u_made_2 (c : TT.Cxt) (n : Nat) (e : TT.Env) (s : TT.Sto) := TT.evSs_of c n e s l_made_2.eq_1
def l_made_3 : TT.Ss := (.cons (.asg (.nm 12) (.call F_spots_of (.cons (.meth (.v 0) M_kids (.cons (.v 10) .nil)) (.cons (.op true .len (.cons (.v 2) .nil)) (.cons (.v 6) .nil))))) (.cons (.ex (.bm true .append (.v 9) (.cons (.lc true [14] (.nm 14) (.seq (.v 12)) .nil (.op true .dget (.cons (.v 8) (.cons (.op true .ix (.cons (.v 5) (.cons (.op true .ix (.cons (.op true .ix (.cons (.v 3) (.cons (.v 10) .nil))) (.cons (.v 14) .nil))) .nil))) .nil)))) .nil))) .nil))
def u_made_3 (c : TT.Cxt) (n : Nat) (e : TT.Env) (s : TT.Sto) := TT.evSs_of c n e s l_made_3.eq_1
def b_made : TT.Ss := (.cons (.asg (.nm 2) (.call F_reached (.cons (.v 0) (.cons (.v 1) .nil)))) (.cons (.asg (.nm 3) (.call F_targets (.cons (.v 0) (.cons (.v 1) (.cons (.v 2) .nil))))) (.cons (.asg (.nm 4) (.lc true [13] (.nm 13) (.seq (.v 2)) .nil (.op true .int (.cons (.meth (.v 1) M_is_liked (.cons (.v 13) .nil)) .nil)))) (.cons (.asg (.nm 5) (.call F_kinds_of (.cons (.v 3) (.cons (.lc true [15] (.nm 15) (.seq (.v 4)) .nil (.op true .int (.cons (.op true .ne (.cons (.v 15) (.cons (.op true .ix (.cons (.v 4) (.cons (.k (.int 0)) .nil))) .nil))) .nil))) .nil)))) (.cons (.asg (.nm 6) (.lst false .nil)) (.cons (.asg (.nm 7) (.call F_next_mood (.cons (.v 0) (.cons (.v 3) (.cons (.v 5) (.cons (.v 6) .nil)))))) (.cons (.whl 1000000 (.op true .notN (.cons (.v 7) (.cons (.k .non) .nil))) [] l_made_1) (.cons (.asg (.nm 8) (.dic false 3)) (.cons (.for (.nm 7) (.seq (.v 6)) [7] l_made_2) (.cons (.asg (.nm 9) (.lst false .nil)) (.cons (.for (.nm 10) (.rng1 (.meth (.v 0) M_many .nil)) [10, 12] l_made_3) (.cons (.asg (.nm 11) (.lc true [14] (.nm 14) (.rng1 (.op true .len (.cons (.v 6) .nil))) (.cons (.op true .eq (.cons (.op true .ix (.cons (.v 4) (.cons (.op true .ix (.cons (.v 6) (.cons (.v 14) .nil))) .nil))) (.cons (.k (.int 1)) .nil))) .nil) (.v 14))) (.cons (.ret (.call F_told_reader (.cons (.v 0) (.cons (.op true .len (.cons (.v 6) .nil)) (.cons (.v 9) (.cons (.v 11) .nil)))))) .nil)))))))))))))
def f_made : TT.Fn := ⟨2, 16, false, b_made⟩
/-- is_made_row(goals, states, kids, row): 0=goals 1=states 2=kids 3=row 4=lacks 5=item -/
def l_is_made_row_1 : TT.Ss := (.cons (.ite (.op true .eq (.cons (.v 4) (.cons (.k (.int 0)) .nil))) (.cons (.ret (.k (.bl false))) .nil) .nil) (.cons (.asg (.nm 4) (.op true .sub (.cons (.v 4) (.cons (.k (.int 1)) .nil)))) (.cons (.ite (.op true .isTup (.cons (.v 5) .nil)) (.cons (.ite (.bop false (.cons (.op true .ne (.cons (.op true .len (.cons (.v 5) .nil)) (.cons (.k (.int 2)) .nil))) (.cons (.not (.chain .le .lt (.k (.int 0)) (.op true .ix (.cons (.v 5) (.cons (.k (.int 0)) .nil))) (.v 1))) (.cons (.not (.chain .le .lt (.k (.int 0)) (.op true .ix (.cons (.v 5) (.cons (.k (.int 1)) .nil))) (.v 2))) .nil)))) (.cons (.ret (.k (.bl false))) .nil) .nil) .nil) (.cons (.ite (.not (.chain .le .lt (.k (.int 0)) (.v 5) (.meth (.v 0) M_many .nil))) (.cons (.ret (.k (.bl false))) .nil) (.cons (.asg (.nm 4) (.op true .add (.cons (.v 4) (.cons (.meth (.v 0) M_kids (.cons (.v 5) .nil)) .nil)))) .nil)) .nil)) .nil)))
def u_is_made_row_1 (c : TT.Cxt) (n : Nat) (e : TT.Env) (s : TT.Sto) := TT.evSs_of c n e s l_is_made_row_1.eq_1
def b_is_made_row : TT.Ss := (.cons (.asg (.nm 4) (.k (.int 1))) (.cons (.for (.nm 5) (.seq (.v 3)) [5] l_is_made_row_1) (.cons (.ret (.op true .eq (.cons (.v 4) (.cons (.k (.int 0)) .nil)))) .nil)))
def f_is_made_row : TT.Fn := ⟨4, 6, false, b_is_made_row⟩
/-- Turner.__init__(self, book, goals, rows): 0=self 1=book 2=goals 3=rows 4=some 5=sign 6=row -/
def l_Turner___init___1 : TT.Ss := (.cons (.ite (.bop false (.cons (.op true .gt (.cons (.op true .len (.cons (.v 6) .nil)) (.cons (.g 0 (.int 8)) .nil))) (.cons (.not (.call F_is_made_row (.cons (.v 2) (.cons (.op true .len (.cons (.v 3) .nil)) (.cons (.meth (.v 1) M_kids (.cons (.v 5) .nil)) (.cons (.v 6) .nil)))))) .nil))) (.cons (.raise X_NoTurner) .nil) .nil) .nil)
def u_Turner___init___1 (c : TT.Cxt) (n : Nat) (e : TT.Env) (s : TT.Sto) := TT.evSs_of c n e s l_Turner___init___1.eq_1
def l_Turner___init___2 : TT.Ss := (.cons (.ite (.op true .ne (.cons (.op true .len (.cons (.v 4) .nil)) (.cons (.meth (.v 1) M_many .nil) .nil))) (.cons (.raise X_NoTurner) .nil) .nil) (.cons (.for (.tp [5, 6]) (.enm (.v 4)) [5, 6] l_Turner___init___1) .nil))
def u_Turner___init___2 (c : TT.Cxt) (n : Nat) (e : TT.Env) (s : TT.Sto) := TT.evSs_of c n e s l_Turner___init___2.eq_1
def b_Turner___init__ : TT.Ss := (.cons (.ite (.not (.chain .le .le (.k (.int 1)) (.op true .len (.cons (.v 3) .nil)) (.g 0 (.int 3)))) (.cons (.raise X_NoTurner) .nil) .nil) (.cons (.for (.nm 4) (.seq (.v 3)) [5, 6] l_Turner___init___2) (.cons (.fld (.v 0) A_own_book (.v 1)) (.cons (.fld (.v 0) A_own_goals (.v 2)) (.cons (.fld (.v 0) A_own_rows (.lc true [4] (.nm 4) (.seq (.v 3)) .nil (.op true .list (.cons (.v 4) .nil)))) .nil)))))
def f_Turner___init__ : TT.Fn := ⟨4, 7, false, b_Turner___init__⟩
/-- Turner.book(self): 0=self -/
def b_Turner_book : TT.Ss := (.cons (.ret (.attr (.v 0) A_own_book)) .nil)
def f_Turner_book : TT.Fn := ⟨1, 1, false, b_Turner_book⟩
/-- Turner.goals(self): 0=self -/
def b_Turner_goals : TT.Ss := (.cons (.ret (.attr (.v 0) A_own_goals)) .nil)
def f_Turner_goals : TT.Fn := ⟨1, 1, false, b_Turner_goals⟩
/-- Turner.states(self): 0=self -/
def b_Turner_states : TT.Ss := (.cons (.ret (.op true .len (.cons (.attr (.v 0) A_own_rows) .nil))) .nil)
def f_Turner_states : TT.Fn := ⟨1, 1, false, b_Turner_states⟩
/-- Turner.row(self, state, sign): 0=self 1=state 2=sign -/
def b_Turner_row : TT.Ss := (.cons (.ret (.op true .ix (.cons (.op true .ix (.cons (.attr (.v 0) A_own_rows) (.cons (.v 1) .nil))) (.cons (.v 2) .nil)))) .nil)
def f_Turner_row : TT.Fn := ⟨3, 3, false, b_Turner_row⟩
/-- folded(book, row, hand, given): 0=book 1=row 2=hand 3=given 4=waiting 5=item 6=kids 7=kid -/
def l_folded_1 : TT.Ss := (.cons (.ite (.op true .isTup (.cons (.v 5) .nil)) (.cons (.ex (.bm true .append (.v 4) (.cons (.op true .dget (.cons (.v 3) (.cons (.v 5) .nil))) .nil))) .nil) (.cons (.asg (.nm 6) (.op true .tuple (.cons (.lc true [7] (.nm 7) (.rng1 (.meth (.v 0) M_kids (.cons (.v 5) .nil))) .nil (.bm true .pop (.v 4) .nil)) .nil))) (.cons (.ex (.bm true .append (.v 4) (.cons (.meth (.v 2) M_lead (.cons (.v 5) (.cons (.v 6) .nil))) .nil))) .nil))) .nil)
def u_folded_1 (c : TT.Cxt) (n : Nat) (e : TT.Env) (s : TT.Sto) := TT.evSs_of c n e s l_folded_1.eq_1
def b_folded : TT.Ss := (.cons (.asg (.nm 4) (.lst false .nil)) (.cons (.for (.nm 5) (.revs (.v 1)) [5, 6, 7] l_folded_1) (.cons (.ret (.op true .ix (.cons (.v 4) (.cons (.op true .neg (.cons (.k (.int 1)) .nil)) .nil)))) .nil)))
def f_folded : TT.Fn := ⟨4, 8, false, b_folded⟩
/-- Through.__init__(self, turner, inner): 0=self 1=turner 2=inner -/
def b_Through___init__ : TT.Ss := (.cons (.fld (.v 0) A_own_turner (.v 1)) (.cons (.fld (.v 0) A_own_inner (.v 2)) .nil))
def f_Through___init__ : TT.Fn := ⟨3, 3, false, b_Through___init__⟩
/-- Through.of_row(self, row, kids): 0=self 1=row 2=kids 3=given 4=kid 5=some 6=state 7=thing -/
def l_Through_of_row_1 : TT.Ss := (.cons (.dput (.v 3) (.tup (.cons (.v 6) (.cons (.v 4) .nil))) (.v 7)) .nil)
def u_Through_of_row_1 (c : TT.Cxt) (n : Nat) (e : TT.Env) (s : TT.Sto) := TT.evSs_of c n e s l_Through_of_row_1.eq_1
def l_Through_of_row_2 : TT.Ss := (.cons (.for (.tp [6, 7]) (.enm (.v 5)) [6, 7] l_Through_of_row_1) .nil)
def u_Through_of_row_2 (c : TT.Cxt) (n : Nat) (e : TT.Env) (s : TT.Sto) := TT.evSs_of c n e s l_Through_of_row_2.eq_1
def b_Through_of_row : TT.Ss := (.cons (.asg (.nm 3) (.dic false 1)) (.cons (.for (.tp [4, 5]) (.enm (.v 2)) [4, 5, 6, 7] l_Through_of_row_2) (.cons (.ret (.call F_folded (.cons (.meth (.attr (.v 0) A_own_turner) M_goals .nil) (.cons (.v 1) (.cons (.attr (.v 0) A_own_inner) (.cons (.v 3) .nil)))))) .nil)))
def f_Through_of_row : TT.Fn := ⟨3, 8, false, b_Through_of_row⟩
/-- Through.lead(self, sign, kids): 0=self 1=sign 2=kids 3=found 4=state -/
def l_Through_lead_1 : TT.Ss := (.cons (.ex (.bm true .append (.v 3) (.cons (.meth (.v 0) M_of_row (.cons (.meth (.attr (.v 0) A_own_turner) M_row (.cons (.v 4) (.cons (.v 1) .nil))) (.cons (.v 2) .nil))) .nil))) .nil)
def u_Through_lead_1 (c : TT.Cxt) (n : Nat) (e : TT.Env) (s : TT.Sto) := TT.evSs_of c n e s l_Through_lead_1.eq_1
def b_Through_lead : TT.Ss := (.cons (.asg (.nm 3) (.lst false .nil)) (.cons (.for (.nm 4) (.rng1 (.meth (.attr (.v 0) A_own_turner) M_states .nil)) [4] l_Through_lead_1) (.cons (.ret (.op true .tuple (.cons (.v 3) .nil))) .nil)))
def f_Through_lead : TT.Fn := ⟨3, 5, false, b_Through_lead⟩
/-- must_be_like(one, other): 0=one 1=other -/
def b_must_be_like : TT.Ss := (.cons (.ite (.not (.meth (.v 0) M_is_like (.cons (.v 1) .nil))) (.cons (.raise X_Unlike) .nil) .nil) .nil)
def f_must_be_like : TT.Fn := ⟨2, 2, false, b_must_be_like⟩
/-- Ahead.__init__(self, turner, reader): 0=self 1=turner 2=reader -/
def b_Ahead___init__ : TT.Ss := (.cons (.ex (.call F_must_be_like (.cons (.meth (.v 1) M_goals .nil) (.cons (.meth (.v 2) M_book .nil) .nil)))) (.cons (.fld (.v 0) A_own_reader (.v 2)) (.cons (.fld (.v 0) A_own_through (.new true C_Through (.cons (.v 1) (.cons (.v 2) .nil)))) .nil)))
def f_Ahead___init__ : TT.Fn := ⟨3, 3, false, b_Ahead___init__⟩
/-- Ahead.lead(self, sign, kids): 0=self 1=sign 2=kids -/
def b_Ahead_lead : TT.Ss := (.cons (.ret (.meth (.attr (.v 0) A_own_through) M_lead (.cons (.v 1) (.cons (.v 2) .nil)))) .nil)
def f_Ahead_lead : TT.Fn := ⟨3, 3, false, b_Ahead_lead⟩
/-- Ahead.is_liked(self, found): 0=self 1=found -/
def b_Ahead_is_liked : TT.Ss := (.cons (.ret (.meth (.attr (.v 0) A_own_reader) M_is_liked (.cons (.op true .ix (.cons (.v 1) (.cons (.k (.int 0)) .nil))) .nil))) .nil)
def f_Ahead_is_liked : TT.Fn := ⟨2, 2, false, b_Ahead_is_liked⟩
/-- before(turner, reader): 0=turner 1=reader -/
def b_before : TT.Ss := (.cons (.ret (.call F_made (.cons (.meth (.v 0) M_book .nil) (.cons (.new true C_Ahead (.cons (.v 0) (.cons (.v 1) .nil))) .nil)))) .nil)
def f_before : TT.Fn := ⟨2, 2, false, b_before⟩
/-- Parts.__init__(self, book, tree): 0=self 1=book 2=tree -/
def b_Parts___init__ : TT.Ss := (.cons (.fld (.v 0) A_own_parts (.call F_parts (.cons (.v 1) (.cons (.v 2) .nil)))) .nil)
def f_Parts___init__ : TT.Fn := ⟨3, 3, false, b_Parts___init__⟩
/-- Parts.lead(self, sign, kids): 0=self 1=sign 2=kids 3=row 4=kid -/
def l_Parts_lead_1 : TT.Ss := (.cons (.asg (.nm 3) (.op true .add (.cons (.v 3) (.cons (.v 4) .nil)))) .nil)
def u_Parts_lead_1 (c : TT.Cxt) (n : Nat) (e : TT.Env) (s : TT.Sto) := TT.evSs_of c n e s l_Parts_lead_1.eq_1
def b_Parts_lead : TT.Ss := (.cons (.ite (.op true .inS (.cons (.k .non) (.cons (.v 2) .nil))) (.cons (.ret (.k .non)) .nil) .nil) (.cons (.asg (.nm 3) (.tup (.cons (.v 1) .nil))) (.cons (.for (.nm 4) (.seq (.v 2)) [4] l_Parts_lead_1) (.cons (.ite (.op true .inS (.cons (.v 3) (.cons (.attr (.v 0) A_own_parts) .nil))) (.cons (.ret (.v 3)) .nil) .nil) (.cons (.ret (.k .non)) .nil)))))
def f_Parts_lead : TT.Fn := ⟨3, 5, false, b_Parts_lead⟩
/-- Back.__init__(self, turner, tree): 0=self 1=turner 2=tree -/
def b_Back___init__ : TT.Ss := (.cons (.fld (.v 0) A_own_tree (.v 2)) (.cons (.fld (.v 0) A_own_through (.new true C_Through (.cons (.v 1) (.cons (.new true C_Parts (.cons (.meth (.v 1) M_goals .nil) (.cons (.v 2) .nil))) .nil)))) .nil))
def f_Back___init__ : TT.Fn := ⟨3, 3, false, b_Back___init__⟩
/-- Back.lead(self, sign, kids): 0=self 1=sign 2=kids -/
def b_Back_lead : TT.Ss := (.cons (.ret (.meth (.attr (.v 0) A_own_through) M_lead (.cons (.v 1) (.cons (.v 2) .nil)))) .nil)
def f_Back_lead : TT.Fn := ⟨3, 3, false, b_Back_lead⟩
/-- Back.is_liked(self, found): 0=self 1=found -/
def b_Back_is_liked : TT.Ss := (.cons (.ret (.op true .eq (.cons (.op true .ix (.cons (.v 1) (.cons (.k (.int 0)) .nil))) (.cons (.attr (.v 0) A_own_tree) .nil)))) .nil)
def f_Back_is_liked : TT.Fn := ⟨2, 2, false, b_Back_is_liked⟩
/-- back(turner, tree): 0=turner 1=tree 2=hand -/
def b_back : TT.Ss := (.cons (.ex (.call F_check_tree (.cons (.meth (.v 0) M_goals .nil) (.cons (.v 1) .nil)))) (.cons (.ite (.op true .gt (.cons (.op true .len (.cons (.v 1) .nil)) (.cons (.g 0 (.int 5)) .nil))) (.cons (.raise X_NoTree) .nil) .nil) (.cons (.asg (.nm 2) (.new true C_Back (.cons (.v 0) (.cons (.v 1) .nil)))) (.cons (.ret (.call F_first_of (.cons (.meth (.v 0) M_book .nil) (.cons (.call F_firsts (.cons (.meth (.v 0) M_book .nil) (.cons (.v 2) .nil))) (.cons (.v 2) .nil))))) .nil))))
def f_back : TT.Fn := ⟨2, 3, false, b_back⟩
/-- Landing.__init__(self, turner, source, goal): 0=self 1=turner 2=source 3=goal -/
def b_Landing___init__ : TT.Ss := (.cons (.ex (.call F_must_be_like (.cons (.meth (.v 1) M_book .nil) (.cons (.meth (.v 2) M_book .nil) .nil)))) (.cons (.fld (.v 0) A_own_ahead (.new true C_Ahead (.cons (.v 1) (.cons (.v 3) .nil)))) (.cons (.fld (.v 0) A_own_turner (.v 1)) (.cons (.fld (.v 0) A_own_source (.v 2)) (.cons (.fld (.v 0) A_own_goal (.v 3)) .nil)))))
def f_Landing___init__ : TT.Fn := ⟨4, 4, false, b_Landing___init__⟩
/-- Landing.lead(self, sign, kids): 0=self 1=sign 2=kids 3=mood 4=kid -/
def b_Landing_lead : TT.Ss := (.cons (.asg (.nm 3) (.meth (.attr (.v 0) A_own_source) M_lead (.cons (.v 1) (.cons (.op true .tuple (.cons (.lc true [4] (.nm 4) (.seq (.v 2)) .nil (.op true .ix (.cons (.v 4) (.cons (.k (.int 0)) .nil)))) .nil)) .nil)))) (.cons (.ret (.tup (.cons (.v 3) (.cons (.meth (.attr (.v 0) A_own_ahead) M_lead (.cons (.v 1) (.cons (.op true .tuple (.cons (.lc true [4] (.nm 4) (.seq (.v 2)) .nil (.op true .ix (.cons (.v 4) (.cons (.k (.int 1)) .nil)))) .nil)) .nil))) .nil)))) .nil))
def f_Landing_lead : TT.Fn := ⟨3, 5, false, b_Landing_lead⟩
/-- Landing.is_liked(self, found): 0=self 1=found -/
def b_Landing_is_liked : TT.Ss := (.cons (.ret (.bop true (.cons (.meth (.attr (.v 0) A_own_source) M_is_liked (.cons (.op true .ix (.cons (.v 1) (.cons (.k (.int 0)) .nil))) .nil)) (.cons (.not (.meth (.attr (.v 0) A_own_ahead) M_is_liked (.cons (.op true .ix (.cons (.v 1) (.cons (.k (.int 1)) .nil))) .nil))) .nil)))) .nil)
def f_Landing_is_liked : TT.Fn := ⟨2, 2, false, b_Landing_is_liked⟩
/-- Landing.is_row(self, found): 0=self 1=found 2=mood 3=moods 4=one -/
def b_Landing_is_row : TT.Ss := (.cons (.asg (.tp [2, 3]) (.v 1)) (.cons (.ite (.bop false (.cons (.not (.chain .le .lt (.k (.int 0)) (.v 2) (.meth (.attr (.v 0) A_own_source) M_moods .nil))) (.cons (.op true .ne (.cons (.op true .len (.cons (.v 3) .nil)) (.cons (.meth (.attr (.v 0) A_own_turner) M_states .nil) .nil))) .nil))) (.cons (.ret (.k (.bl false))) .nil) .nil) (.cons (.ret (.op true .all (.cons (.lc true [4] (.nm 4) (.seq (.v 3)) .nil (.chain .le .lt (.k (.int 0)) (.v 4) (.meth (.attr (.v 0) A_own_goal) M_moods .nil))) .nil))) .nil)))
def f_Landing_is_row : TT.Fn := ⟨2, 5, false, b_Landing_is_row⟩
/-- lands(turner, source, goal): 0=turner 1=source 2=goal 3=landing 4=found 5=tree -/
def b_lands : TT.Ss := (.cons (.asg (.nm 3) (.new true C_Landing (.cons (.v 0) (.cons (.v 1) (.cons (.v 2) .nil))))) (.cons (.asg (.nm 4) (.call F_firsts (.cons (.meth (.v 0) M_book .nil) (.cons (.v 3) .nil)))) (.cons (.asg (.nm 5) (.call F_first_of (.cons (.meth (.v 0) M_book .nil) (.cons (.v 4) (.cons (.v 3) .nil))))) (.cons (.ite (.op true .notN (.cons (.v 5) (.cons (.k .non) .nil))) (.cons (.ret (.tup (.cons (.k (.str "not")) (.cons (.v 5) .nil)))) .nil) .nil) (.cons (.ret (.tup (.cons (.k (.str "always")) (.cons (.op true .sorted (.cons (.op true .list (.cons (.v 4) .nil)) .nil)) .nil)))) .nil)))))
def f_lands : TT.Fn := ⟨3, 6, false, b_lands⟩
/-- shows_lands(turner, source, goal, rows): 0=turner 1=source 2=goal 3=rows 4=landing 5=row 6=known 7=sign 8=kids -/
def l_shows_lands_1 : TT.Ss := (.cons (.ite (.bop false (.cons (.not (.meth (.v 4) M_is_row (.cons (.v 5) .nil))) (.cons (.meth (.v 4) M_is_liked (.cons (.v 5) .nil)) .nil))) (.cons (.ret (.k (.bl false))) .nil) .nil) .nil)
def u_shows_lands_1 (c : TT.Cxt) (n : Nat) (e : TT.Env) (s : TT.Sto) := TT.evSs_of c n e s l_shows_lands_1.eq_1
def l_shows_lands_2 : TT.Ss := (.cons (.dput (.v 6) (.v 5) (.k (.bl true))) .nil)
def u_shows_lands_2 (c : TT.Cxt) (n : Nat) (e : TT.Env) (s : TT.Sto) := TT.evSs_of c n e s l_shows_lands_2.eq_1
def l_shows_lands_3 : TT.Ss := (.cons (.ite (.op true .ninD (.cons (.meth (.v 4) M_lead (.cons (.v 7) (.cons (.v 8) .nil))) (.cons (.v 6) .nil))) (.cons (.ret (.k (.bl false))) .nil) .nil) .nil)
def u_shows_lands_3 (c : TT.Cxt) (n : Nat) (e : TT.Env) (s : TT.Sto) := TT.evSs_of c n e s l_shows_lands_3.eq_1
def l_shows_lands_4 : TT.Ss := (.cons (.for (.nm 8) (.seq (.call F_choices (.cons (.op true .list (.cons (.v 6) .nil)) (.cons (.meth (.meth (.v 0) M_book .nil) M_kids (.cons (.v 7) .nil)) .nil)))) [8] l_shows_lands_3) .nil)
def u_shows_lands_4 (c : TT.Cxt) (n : Nat) (e : TT.Env) (s : TT.Sto) := TT.evSs_of c n e s l_shows_lands_4.eq_1
def b_shows_lands : TT.Ss := (.cons (.asg (.nm 4) (.new true C_Landing (.cons (.v 0) (.cons (.v 1) (.cons (.v 2) .nil))))) (.cons (.for (.nm 5) (.seq (.v 3)) [5] l_shows_lands_1) (.cons (.asg (.nm 6) (.dic false 3)) (.cons (.for (.nm 5) (.seq (.v 3)) [5] l_shows_lands_2) (.cons (.for (.nm 7) (.rng1 (.meth (.meth (.v 0) M_book .nil) M_many .nil)) [7, 8] l_shows_lands_4) (.cons (.ret (.k (.bl true))) .nil))))))
def f_shows_lands : TT.Fn := ⟨4, 9, false, b_shows_lands⟩
/-- is_name(text, most): 0=text 1=most 2=letter -/
def b_is_name : TT.Ss := (.cons (.ret (.bop true (.cons (.chain .le .le (.k (.int 1)) (.op true .len (.cons (.v 0) .nil)) (.v 1)) (.cons (.op true .all (.cons (.lc true [2] (.nm 2) (.txt (.v 0)) .nil (.op true .inT (.cons (.v 2) (.cons (.g 0 (.str "abcdefghijklmnopqrstuvwxyz")) .nil)))) .nil)) .nil)))) .nil)
def f_is_name : TT.Fn := ⟨2, 3, false, b_is_name⟩
/-- check_book(signs): 0=signs 1=names 2=leaves 3=name 4=kids -/
def l_check_book_1 : TT.Ss := (.cons (.ite (.bop false (.cons (.not (.call F_is_name (.cons (.v 3) (.cons (.k (.int 3)) .nil)))) (.cons (.op true .inS (.cons (.v 3) (.cons (.v 1) .nil))) (.cons (.not (.chain .le .le (.k (.int 0)) (.v 4) (.k (.int 2)))) .nil)))) (.cons (.raise X_NoBook) .nil) .nil) (.cons (.ex (.bm true .append (.v 1) (.cons (.v 3) .nil))) (.cons (.asg (.nm 2) (.op true .add (.cons (.v 2) (.cons (.op true .int (.cons (.op true .eq (.cons (.v 4) (.cons (.k (.int 0)) .nil))) .nil)) .nil)))) .nil)))
def u_check_book_1 (c : TT.Cxt) (n : Nat) (e : TT.Env) (s : TT.Sto) := TT.evSs_of c n e s l_check_book_1.eq_1
def b_check_book : TT.Ss := (.cons (.ite (.not (.chain .le .le (.k (.int 1)) (.op true .len (.cons (.v 0) .nil)) (.g 0 (.int 6)))) (.cons (.raise X_NoBook) .nil) .nil) (.cons (.asg (.nm 1) (.lst false .nil)) (.cons (.asg (.nm 2) (.k (.int 0))) (.cons (.for (.tp [3, 4]) (.seq (.v 0)) [3, 4] l_check_book_1) (.cons (.ite (.op true .eq (.cons (.v 2) (.cons (.k (.int 0)) .nil))) (.cons (.raise X_NoBook) .nil) .nil) .nil)))))
def f_check_book : TT.Fn := ⟨1, 5, false, b_check_book⟩
/-- Book.__init__(self, signs): 0=self 1=signs 2=name 3=kids -/
def b_Book___init__ : TT.Ss := (.cons (.ex (.call F_check_book (.cons (.v 1) .nil))) (.cons (.fld (.v 0) A_names_told (.lc true [2, 3] (.tp [2, 3]) (.seq (.v 1)) .nil (.v 2))) (.cons (.fld (.v 0) A_kids_told (.lc true [2, 3] (.tp [2, 3]) (.seq (.v 1)) .nil (.v 3))) .nil)))
def f_Book___init__ : TT.Fn := ⟨2, 4, false, b_Book___init__⟩
/-- Book.many(self): 0=self -/
def b_Book_many : TT.Ss := (.cons (.ret (.op true .len (.cons (.attr (.v 0) A_names_told) .nil))) .nil)
def f_Book_many : TT.Fn := ⟨1, 1, false, b_Book_many⟩
/-- Book.name(self, sign): 0=self 1=sign -/
def b_Book_name : TT.Ss := (.cons (.ret (.op true .ix (.cons (.attr (.v 0) A_names_told) (.cons (.v 1) .nil)))) .nil)
def f_Book_name : TT.Fn := ⟨2, 2, false, b_Book_name⟩
/-- Book.kids(self, sign): 0=self 1=sign -/
def b_Book_kids : TT.Ss := (.cons (.ret (.op true .ix (.cons (.attr (.v 0) A_kids_told) (.cons (.v 1) .nil)))) .nil)
def f_Book_kids : TT.Fn := ⟨2, 2, false, b_Book_kids⟩
/-- Book.number(self, name): 0=self 1=name -/
def b_Book_number : TT.Ss := (.cons (.ite (.op true .inS (.cons (.v 1) (.cons (.attr (.v 0) A_names_told) .nil))) (.cons (.ret (.bm true .index (.attr (.v 0) A_names_told) (.cons (.v 1) .nil))) .nil) .nil) (.cons (.ret (.k .non)) .nil))
def f_Book_number : TT.Fn := ⟨2, 2, false, b_Book_number⟩
/-- Book.is_like(self, book): 0=self 1=book -/
def b_Book_is_like : TT.Ss := (.cons (.ret (.bop true (.cons (.op true .eq (.cons (.attr (.v 0) A_names_told) (.cons (.attr (.v 1) A_names_told) .nil))) (.cons (.op true .eq (.cons (.attr (.v 0) A_kids_told) (.cons (.attr (.v 1) A_kids_told) .nil))) .nil)))) .nil)
def f_Book_is_like : TT.Fn := ⟨2, 2, false, b_Book_is_like⟩
/-- _law_cell(_law_script, _law_k): 0=_law_script 1=_law_k -/
def b__law_cell : TT.Ss := (.cons (.ite (.op true .lt (.cons (.v 1) (.cons (.op true .len (.cons (.v 0) .nil)) .nil))) (.cons (.ret (.op true .ix (.cons (.v 0) (.cons (.v 1) .nil)))) .nil) .nil) (.cons (.ret (.k (.int 0))) .nil))
def f__law_cell : TT.Fn := ⟨2, 2, false, b__law_cell⟩
/-- _law_mix(_law_cell_here, _law_k): 0=_law_cell_here 1=_law_k 2=_law_some 3=_law_stir -/
def b__law_mix : TT.Ss := (.cons (.asg (.nm 2) (.lst true (.cons (.k (.int 48271)) (.cons (.k (.int 69621)) (.cons (.k (.int 16807)) (.cons (.k (.int 39373)) (.cons (.k (.int 30269)) (.cons (.k (.int 40014)) (.cons (.k (.int 40692)) (.cons (.k (.int 50021)) (.cons (.k (.int 61687)) (.cons (.k (.int 71993)) (.cons (.k (.int 83869)) (.cons (.k (.int 95561)) (.cons (.k (.int 30307)) .nil))))))))))))))) (.cons (.asg (.nm 3) (.op true .mul (.cons (.op true .add (.cons (.op true .mod (.cons (.v 0) (.cons (.k (.int 2147483647)) .nil))) (.cons (.k (.int 12345)) .nil))) (.cons (.op true .ix (.cons (.v 2) (.cons (.op true .mod (.cons (.v 1) (.cons (.k (.int 13)) .nil))) .nil))) .nil)))) (.cons (.asg (.nm 3) (.op true .add (.cons (.op true .add (.cons (.v 3) (.cons (.op true .mul (.cons (.k (.int 977)) (.cons (.v 1) .nil))) .nil))) (.cons (.op true .mul (.cons (.k (.int 7919)) (.cons (.op true .fdiv (.cons (.v 1) (.cons (.k (.int 13)) .nil))) .nil))) .nil)))) (.cons (.asg (.nm 3) (.op true .mod (.cons (.v 3) (.cons (.k (.int 1000000007)) .nil)))) (.cons (.ret (.op true .fdiv (.cons (.op true .mod (.cons (.op true .add (.cons (.op true .mul (.cons (.v 3) (.cons (.v 3) .nil))) (.cons (.op true .mul (.cons (.k (.int 48271)) (.cons (.v 1) .nil))) .nil))) (.cons (.k (.int 1000000007)) .nil))) (.cons (.k (.int 7)) .nil)))) .nil)))))
def f__law_mix : TT.Fn := ⟨2, 4, false, b__law_mix⟩
/-- _law_box(_law_script, _law_k, _law_lap): 0=_law_script 1=_law_k 2=_law_lap 3=_law_cell_here 4=_law_number 5=_law_j -/
def l__law_box_1 : TT.Ss := (.cons (.asg (.nm 4) (.op true .add (.cons (.op true .mul (.cons (.v 4) (.cons (.k (.int 142857143)) .nil))) (.cons (.call F__law_mix (.cons (.v 3) (.cons (.op true .add (.cons (.op true .mul (.cons (.k (.int 90)) (.cons (.v 2) .nil))) (.cons (.v 5) .nil))) .nil))) .nil)))) .nil)
def u__law_box_1 (c : TT.Cxt) (n : Nat) (e : TT.Env) (s : TT.Sto) := TT.evSs_of c n e s l__law_box_1.eq_1
def b__law_box : TT.Ss := (.cons (.asg (.nm 3) (.call F__law_cell (.cons (.v 0) (.cons (.v 1) .nil)))) (.cons (.ite (.bop true (.cons (.op true .eq (.cons (.op true .mod (.cons (.v 3) (.cons (.k (.int 2)) .nil))) (.cons (.k (.int 0)) .nil))) (.cons (.op true .eq (.cons (.v 2) (.cons (.k (.int 0)) .nil))) .nil))) (.cons (.ret (.lst false (.cons (.op true .fdiv (.cons (.op true .abs (.cons (.v 3) .nil)) (.cons (.k (.int 2)) .nil))) .nil))) .nil) .nil) (.cons (.asg (.nm 4) (.k (.int 0))) (.cons (.for (.nm 5) (.rng1 (.k (.int 90))) [5] l__law_box_1) (.cons (.ret (.lst false (.cons (.v 4) .nil))) .nil)))))
def f__law_box : TT.Fn := ⟨3, 6, true, b__law_box⟩
/-- _law_take(_law_box_here, _law_bound): 0=_law_box_here 1=_law_bound 2=_law_left 3=_law_digit -/
def b__law_take : TT.Ss := (.cons (.asg (.tp [2, 3]) (.op true .divmod (.cons (.op true .ix (.cons (.v 0) (.cons (.k (.int 0)) .nil))) (.cons (.v 1) .nil)))) (.cons (.sub (.v 0) (.k (.int 0)) (.v 2)) (.cons (.ret (.v 3)) .nil)))
def f__law_take : TT.Fn := ⟨2, 4, false, b__law_take⟩
/-- _law_signs(_law_box_here): 0=_law_box_here 1=_law_letters 2=_law_count 3=_law_leaf 4=_law_found 5=_law_sign 6=_law_name 7=_law_kids -/
def l__law_signs_1 : TT.Ss := (.cons (.asg (.nm 6) (.op true .ix (.cons (.v 1) (.cons (.op true .mod (.cons (.op true .add (.cons (.op true .mul (.cons (.k (.int 7)) (.cons (.op true .add (.cons (.op true .mul (.cons (.k (.int 4)) (.cons (.v 5) .nil))) (.cons (.call F__law_take (.cons (.v 0) (.cons (.k (.int 4)) .nil))) .nil))) .nil))) (.cons (.k (.int 13)) .nil))) (.cons (.k (.int 26)) .nil))) .nil)))) (.cons (.ite (.op true .eq (.cons (.call F__law_take (.cons (.v 0) (.cons (.k (.int 4)) .nil))) (.cons (.k (.int 3)) .nil))) (.cons (.asg (.nm 6) (.op true .add (.cons (.v 6) (.cons (.op true .ix (.cons (.v 1) (.cons (.call F__law_take (.cons (.v 0) (.cons (.k (.int 26)) .nil))) .nil))) .nil)))) .nil) .nil) (.cons (.asg (.nm 7) (.op true .ix (.cons (.lst true (.cons (.k (.int 2)) (.cons (.k (.int 1)) (.cons (.k (.int 0)) .nil)))) (.cons (.call F__law_take (.cons (.v 0) (.cons (.k (.int 3)) .nil))) .nil)))) (.cons (.ex (.bm true .append (.v 4) (.cons (.tup (.cons (.v 6) (.cons (.op true .mul (.cons (.v 7) (.cons (.op true .int (.cons (.op true .ne (.cons (.v 5) (.cons (.v 3) .nil))) .nil)) .nil))) .nil))) .nil))) .nil))))
def u__law_signs_1 (c : TT.Cxt) (n : Nat) (e : TT.Env) (s : TT.Sto) := TT.evSs_of c n e s l__law_signs_1.eq_1
def b__law_signs : TT.Ss := (.cons (.asg (.nm 1) (.k (.str "abcdefghijklmnopqrstuvwxyz"))) (.cons (.asg (.nm 2) (.op true .add (.cons (.k (.int 2)) (.cons (.call F__law_take (.cons (.v 0) (.cons (.k (.int 5)) .nil))) .nil)))) (.cons (.asg (.nm 3) (.call F__law_take (.cons (.v 0) (.cons (.v 2) .nil)))) (.cons (.asg (.nm 4) (.lst false .nil)) (.cons (.for (.nm 5) (.rng1 (.v 2)) [5, 6, 7] l__law_signs_1) (.cons (.ret (.v 4)) .nil))))))
def f__law_signs : TT.Fn := ⟨1, 8, false, b__law_signs⟩
/-- _law_numbers(_law_signs_here): 0=_law_signs_here 1=_law_name 2=_law_kids -/
def b__law_numbers : TT.Ss := (.cons (.ret (.lc true [1, 2] (.tp [1, 2]) (.seq (.v 0)) .nil (.v 2))) .nil)
def f__law_numbers : TT.Fn := ⟨1, 3, false, b__law_numbers⟩
/-- _law_made(_law_box_here, _law_kids, _law_goals, _law_states, _law_most): 0=_law_box_here 1=_law_kids 2=_law_goals 3=_law_states 4=_law_most 5=_law_row 6=_law_wanted 7=_law_some 8=_law_sign -/
def l__law_made_1 : TT.Ss := (.cons (.asg (.nm 7) (.lc true [8] (.nm 8) (.rng1 (.op true .len (.cons (.v 2) .nil))) (.cons (.op true .le (.cons (.op true .add (.cons (.op true .add (.cons (.op true .len (.cons (.v 5) .nil)) (.cons (.v 6) .nil))) (.cons (.op true .ix (.cons (.v 2) (.cons (.v 8) .nil))) .nil))) (.cons (.v 4) .nil))) .nil) (.v 8))) (.cons (.ite (.bop true (.cons (.op true .gt (.cons (.v 1) (.cons (.k (.int 0)) .nil))) (.cons (.op true .gt (.cons (.call F__law_take (.cons (.v 0) (.cons (.k (.int 5)) .nil))) (.cons (.k (.int 2)) .nil))) .nil))) (.cons (.ex (.bm true .append (.v 5) (.cons (.tup (.cons (.call F__law_take (.cons (.v 0) (.cons (.v 3) .nil))) (.cons (.call F__law_take (.cons (.v 0) (.cons (.v 1) .nil))) .nil))) .nil))) (.cons (.asg (.nm 6) (.op true .sub (.cons (.v 6) (.cons (.k (.int 1)) .nil)))) .nil)) (.cons (.asg (.nm 8) (.op true .ix (.cons (.v 7) (.cons (.call F__law_take (.cons (.v 0) (.cons (.op true .len (.cons (.v 7) .nil)) .nil))) .nil)))) (.cons (.ex (.bm true .append (.v 5) (.cons (.v 8) .nil))) (.cons (.asg (.nm 6) (.op true .sub (.cons (.op true .add (.cons (.v 6) (.cons (.op true .ix (.cons (.v 2) (.cons (.v 8) .nil))) .nil))) (.cons (.k (.int 1)) .nil)))) .nil)))) .nil))
def u__law_made_1 (c : TT.Cxt) (n : Nat) (e : TT.Env) (s : TT.Sto) := TT.evSs_of c n e s l__law_made_1.eq_1
def b__law_made : TT.Ss := (.cons (.asg (.nm 5) (.lst false .nil)) (.cons (.asg (.nm 6) (.k (.int 1))) (.cons (.whl 1000000 (.op true .gt (.cons (.v 6) (.cons (.k (.int 0)) .nil))) [7] l__law_made_1) (.cons (.ret (.op true .tuple (.cons (.v 5) .nil))) .nil))))
def f__law_made : TT.Fn := ⟨5, 9, false, b__law_made⟩
/-- _law_rows(_law_box_here, _law_kids, _law_goals, _law_most): 0=_law_box_here 1=_law_kids 2=_law_goals 3=_law_most 4=_law_states 5=_law_state 6=_law_count -/
def b__law_rows : TT.Ss := (.cons (.asg (.nm 4) (.op true .add (.cons (.k (.int 1)) (.cons (.call F__law_take (.cons (.v 0) (.cons (.k (.int 3)) .nil))) .nil)))) (.cons (.ret (.lc true [5] (.nm 5) (.rng1 (.v 4)) .nil (.lc true [6] (.nm 6) (.seq (.v 1)) .nil (.call F__law_made (.cons (.v 0) (.cons (.v 6) (.cons (.v 2) (.cons (.v 4) (.cons (.v 3) .nil))))))))) .nil))
def f__law_rows : TT.Fn := ⟨4, 7, false, b__law_rows⟩
/-- _law_tables(_law_box_here, _law_kids, _law_moods): 0=_law_box_here 1=_law_kids 2=_law_moods 3=_law_count 4=_law_spot -/
def b__law_tables : TT.Ss := (.cons (.ret (.lc true [3] (.nm 3) (.seq (.v 1)) .nil (.lc true [4] (.nm 4) (.rng1 (.op true .ix (.cons (.lst true (.cons (.k (.int 1)) (.cons (.v 2) (.cons (.op true .mul (.cons (.v 2) (.cons (.v 2) .nil))) .nil)))) (.cons (.v 3) .nil)))) .nil (.call F__law_take (.cons (.v 0) (.cons (.v 2) .nil)))))) .nil)
def f__law_tables : TT.Fn := ⟨3, 5, false, b__law_tables⟩
/-- _law_liked(_law_box_here, _law_moods): 0=_law_box_here 1=_law_moods 2=_law_mood -/
def b__law_liked : TT.Ss := (.cons (.ret (.lc true [2] (.nm 2) (.rng1 (.v 1)) (.cons (.op true .eq (.cons (.call F__law_take (.cons (.v 0) (.cons (.k (.int 2)) .nil))) (.cons (.k (.int 1)) .nil))) .nil) (.v 2))) .nil)
def f__law_liked : TT.Fn := ⟨2, 3, false, b__law_liked⟩
/-- _law_lead(_law_tables_here, _law_moods, _law_sign, _law_row): 0=_law_tables_here 1=_law_moods 2=_law_sign 3=_law_row 4=_law_spot 5=_law_mood -/
def l__law_lead_1 : TT.Ss := (.cons (.asg (.nm 4) (.op true .add (.cons (.op true .mul (.cons (.v 4) (.cons (.v 1) .nil))) (.cons (.v 5) .nil)))) .nil)
def u__law_lead_1 (c : TT.Cxt) (n : Nat) (e : TT.Env) (s : TT.Sto) := TT.evSs_of c n e s l__law_lead_1.eq_1
def b__law_lead : TT.Ss := (.cons (.asg (.nm 4) (.k (.int 0))) (.cons (.for (.nm 5) (.seq (.v 3)) [5] l__law_lead_1) (.cons (.ret (.op true .ix (.cons (.op true .ix (.cons (.v 0) (.cons (.v 2) .nil))) (.cons (.v 4) .nil)))) .nil)))
def f__law_lead : TT.Fn := ⟨4, 6, false, b__law_lead⟩
/-- _law_reader(_law_box_here, _law_kids, _law_most): 0=_law_box_here 1=_law_kids 2=_law_most 3=_law_moods -/
def b__law_reader : TT.Ss := (.cons (.asg (.nm 3) (.op true .add (.cons (.k (.int 1)) (.cons (.call F__law_take (.cons (.v 0) (.cons (.v 2) .nil))) .nil)))) (.cons (.ret (.tup (.cons (.call F__law_tables (.cons (.v 0) (.cons (.v 1) (.cons (.v 3) .nil)))) (.cons (.v 3) (.cons (.call F__law_liked (.cons (.v 0) (.cons (.v 3) .nil))) .nil))))) .nil))
def f__law_reader : TT.Fn := ⟨3, 4, false, b__law_reader⟩
/-- _law_told(_law_signs_here, _law_some): 0=_law_signs_here 1=_law_some -/
def b__law_told : TT.Ss := (.cons (.ret (.new true C_Reader (.cons (.new true C_Book (.cons (.v 0) .nil)) (.cons (.op true .ix (.cons (.v 1) (.cons (.k (.int 1)) .nil))) (.cons (.op true .ix (.cons (.v 1) (.cons (.k (.int 0)) .nil))) (.cons (.op true .ix (.cons (.v 1) (.cons (.k (.int 2)) .nil))) .nil)))))) .nil)
def f__law_told : TT.Fn := ⟨2, 2, false, b__law_told⟩
/-- _law_other_book(_law_box_here, _law_signs_here): 0=_law_box_here 1=_law_signs_here 2=_law_spot 3=_law_way 4=_law_name 5=_law_kids -/
def b__law_other_book : TT.Ss := (.cons (.asg (.nm 2) (.call F__law_take (.cons (.v 0) (.cons (.op true .len (.cons (.v 1) .nil)) .nil)))) (.cons (.asg (.nm 3) (.call F__law_take (.cons (.v 0) (.cons (.k (.int 4)) .nil)))) (.cons (.asg (.tp [4, 5]) (.op true .ix (.cons (.v 1) (.cons (.v 2) .nil)))) (.cons (.ite (.bop false (.cons (.op true .eq (.cons (.v 3) (.cons (.k (.int 0)) .nil))) (.cons (.bop true (.cons (.op true .eq (.cons (.v 5) (.cons (.k (.int 0)) .nil))) (.cons (.op true .eq (.cons (.v 3) (.cons (.k (.int 1)) .nil))) .nil))) .nil))) (.cons (.ret (.op true .add (.cons (.op true .add (.cons (.slc true (.v 1) .nil (.cons (.v 2) .nil)) (.cons (.lst true (.cons (.tup (.cons (.op true .add (.cons (.v 4) (.cons (.k (.str "q")) .nil))) (.cons (.v 5) .nil))) .nil)) .nil))) (.cons (.slc true (.v 1) (.cons (.op true .add (.cons (.v 2) (.cons (.k (.int 1)) .nil))) .nil) .nil) .nil)))) .nil) .nil) (.cons (.ite (.op true .eq (.cons (.v 3) (.cons (.k (.int 1)) .nil))) (.cons (.ret (.op true .add (.cons (.op true .add (.cons (.slc true (.v 1) .nil (.cons (.v 2) .nil)) (.cons (.lst true (.cons (.tup (.cons (.v 4) (.cons (.op true .sub (.cons (.k (.int 3)) (.cons (.v 5) .nil))) .nil))) .nil)) .nil))) (.cons (.slc true (.v 1) (.cons (.op true .add (.cons (.v 2) (.cons (.k (.int 1)) .nil))) .nil) .nil) .nil)))) .nil) .nil) (.cons (.ite (.bop true (.cons (.op true .eq (.cons (.v 3) (.cons (.k (.int 2)) .nil))) (.cons (.op true .lt (.cons (.op true .len (.cons (.v 1) .nil)) (.cons (.k (.int 6)) .nil))) .nil))) (.cons (.ret (.op true .add (.cons (.v 1) (.cons (.lst true (.cons (.tup (.cons (.k (.str "zzz")) (.cons (.call F__law_take (.cons (.v 0) (.cons (.k (.int 3)) .nil))) .nil))) .nil)) .nil)))) .nil) .nil) (.cons (.ret (.rev true (.v 1))) .nil)))))))
def f__law_other_book : TT.Fn := ⟨2, 6, false, b__law_other_book⟩
/-- _law_refusals(_law_turner, _law_source, _law_goal, _law_rows_here): 0=_law_turner 1=_law_source 2=_law_goal 3=_law_rows_here 4=_law_found -/
def b__law_refusals : TT.Ss := (.cons (.asg (.nm 4) (.lst false (.cons (.ask (.call F_lands (.cons (.v 0) (.cons (.v 1) (.cons (.v 2) .nil))))) .nil))) (.cons (.ex (.bm true .append (.v 4) (.cons (.ask (.call F_shows_lands (.cons (.v 0) (.cons (.v 1) (.cons (.v 2) (.cons (.v 3) .nil)))))) .nil))) (.cons (.ret (.v 4)) .nil)))
def f__law_refusals : TT.Fn := ⟨4, 5, false, b__law_refusals⟩
/-- _law_alike_right(_law_signs_here, _law_goals): 0=_law_signs_here 1=_law_goals 2=_law_one 3=_law_other 4=_law_name 5=_law_kids -/
def b__law_alike_right : TT.Ss := (.cons (.par [2, 3] (.cons (.new true C_Book (.cons (.op true .list (.cons (.v 0) .nil)) .nil)) (.cons (.new true C_Book (.cons (.lc true [4, 5] (.tp [4, 5]) (.seq (.v 0)) .nil (.tup (.cons (.v 4) (.cons (.v 5) .nil)))) .nil)) .nil))) (.cons (.ite (.bop false (.cons (.op true .notB (.cons (.meth (.v 2) M_is_like (.cons (.v 3) .nil)) (.cons (.k (.bl true)) .nil))) (.cons (.op true .notB (.cons (.meth (.v 3) M_is_like (.cons (.v 2) .nil)) (.cons (.k (.bl true)) .nil))) .nil))) (.cons (.ret (.k (.bl false))) .nil) .nil) (.cons (.ret (.op true .eq (.cons (.meth (.v 2) M_is_like (.cons (.new true C_Book (.cons (.v 1) .nil)) .nil)) (.cons (.op true .eq (.cons (.v 0) (.cons (.v 1) .nil))) .nil)))) .nil)))
def f__law_alike_right : TT.Fn := ⟨2, 6, false, b__law_alike_right⟩
/-- _law_right(_law_box_here): 0=_law_box_here 1=_law_turner 2=_law_turn 3=_law_signs_here 4=_law_goals 5=_law_kids 6=_law_goal_kids 7=_law_source 8=_law_goal 9=_law_far 10=_law_far_goals 11=_law_one 12=_law_other 13=_law_row 14=_law_rows_here 15=_law_some 16=_law_bad 17=_law_k -/
def l__law_right_1 : TT.Ss := (.cons (.ite (.op true .ne (.cons (.call F__law_refusals (.cons (.v 1) (.cons (.op true .ix (.cons (.v 15) (.cons (.k (.int 0)) .nil))) (.cons (.op true .ix (.cons (.v 15) (.cons (.k (.int 1)) .nil))) (.cons (.v 14) .nil))))) (.cons (.lst true (.cons (.k (.str "unlike")) (.cons (.k (.str "unlike")) .nil))) .nil))) (.cons (.ret (.k (.bl false))) .nil) .nil) .nil)
def u__law_right_1 (c : TT.Cxt) (n : Nat) (e : TT.Env) (s : TT.Sto) := TT.evSs_of c n e s l__law_right_1.eq_1
def l__law_right_2 : TT.Ss := (.cons (.ite (.op true .ne (.cons (.ask (.call F_back (.cons (.v 1) (.cons (.v 16) .nil)))) (.cons (.k (.str "tree")) .nil))) (.cons (.ret (.k (.bl false))) .nil) .nil) .nil)
def u__law_right_2 (c : TT.Cxt) (n : Nat) (e : TT.Env) (s : TT.Sto) := TT.evSs_of c n e s l__law_right_2.eq_1
def l__law_right_3 : TT.Ss := (.cons (.asg (.nm 9) (.call F__law_other_book (.cons (.v 0) (.cons (.v 3) .nil)))) (.cons (.asg (.nm 10) (.call F__law_other_book (.cons (.v 0) (.cons (.v 4) .nil)))) (.cons (.ite (.bop false (.cons (.not (.call F__law_alike_right (.cons (.v 3) (.cons (.v 9) .nil)))) (.cons (.not (.call F__law_alike_right (.cons (.v 10) (.cons (.v 4) .nil)))) .nil))) (.cons (.ret (.k (.bl false))) .nil) .nil) (.cons (.asg (.nm 11) (.call F__law_told (.cons (.v 9) (.cons (.call F__law_reader (.cons (.v 0) (.cons (.call F__law_numbers (.cons (.v 9) .nil)) (.cons (.k (.int 2)) .nil)))) .nil)))) (.cons (.asg (.nm 12) (.call F__law_told (.cons (.v 10) (.cons (.call F__law_reader (.cons (.v 0) (.cons (.call F__law_numbers (.cons (.v 10) .nil)) (.cons (.k (.int 2)) .nil)))) .nil)))) (.cons (.asg (.nm 13) (.tup (.cons (.op true .sub (.cons (.call F__law_take (.cons (.v 0) (.cons (.k (.int 3)) .nil))) (.cons (.k (.int 1)) .nil))) (.cons (.op true .tuple (.cons (.lc true [17] (.nm 17) (.rng1 (.call F__law_take (.cons (.v 0) (.cons (.k (.int 3)) .nil)))) .nil (.call F__law_take (.cons (.v 0) (.cons (.k (.int 3)) .nil)))) .nil)) .nil)))) (.cons (.asg (.nm 14) (.op true .mul (.cons (.lst true (.cons (.v 13) .nil)) (.cons (.call F__law_take (.cons (.v 0) (.cons (.k (.int 3)) .nil))) .nil)))) (.cons (.for (.nm 15) (.seq (.lst true (.cons (.tup (.cons (.v 11) (.cons (.v 8) .nil))) (.cons (.tup (.cons (.v 7) (.cons (.v 12) .nil))) (.cons (.tup (.cons (.v 11) (.cons (.v 12) .nil))) .nil))))) [15] l__law_right_1) (.cons (.ite (.op true .ne (.cons (.ask (.call F_before (.cons (.v 1) (.cons (.v 12) .nil)))) (.cons (.k (.str "unlike")) .nil))) (.cons (.ret (.k (.bl false))) .nil) .nil) (.cons (.for (.nm 16) (.seq (.lst true (.cons (.tup .nil) (.cons (.tup (.cons (.op true .neg (.cons (.k (.int 1)) .nil)) .nil)) (.cons (.tup (.cons (.op true .len (.cons (.v 4) .nil)) .nil)) (.cons (.op true .mul (.cons (.tup (.cons (.k (.int 0)) .nil)) (.cons (.k (.int 41)) .nil))) (.cons (.tup (.cons (.op true .pow (.cons (.k (.int 10)) (.cons (.k (.int 20)) .nil))) .nil)) .nil))))))) [16] l__law_right_2) .nil))))))))))
def u__law_right_3 (c : TT.Cxt) (n : Nat) (e : TT.Env) (s : TT.Sto) := TT.evSs_of c n e s l__law_right_3.eq_1
def b__law_right : TT.Ss := (.cons (.par [3, 4] (.cons (.call F__law_signs (.cons (.v 0) .nil)) (.cons (.call F__law_signs (.cons (.v 0) .nil)) .nil))) (.cons (.par [5, 6] (.cons (.call F__law_numbers (.cons (.v 3) .nil)) (.cons (.call F__law_numbers (.cons (.v 4) .nil)) .nil))) (.cons (.asg (.nm 1) (.new true C_Turner (.cons (.new true C_Book (.cons (.v 3) .nil)) (.cons (.new true C_Book (.cons (.v 4) .nil)) (.cons (.call F__law_rows (.cons (.v 0) (.cons (.v 5) (.cons (.v 6) (.cons (.k (.int 3)) .nil))))) .nil))))) (.cons (.asg (.tp [7, 8]) (.tup (.cons (.call F__law_told (.cons (.v 3) (.cons (.call F__law_reader (.cons (.v 0) (.cons (.v 5) (.cons (.k (.int 2)) .nil)))) .nil))) (.cons (.call F__law_told (.cons (.v 4) (.cons (.call F__law_reader (.cons (.v 0) (.cons (.v 6) (.cons (.k (.int 2)) .nil)))) .nil))) .nil)))) (.cons (.for (.nm 2) (.rng1 (.k (.int 5))) [2, 9, 10, 11, 12, 13, 14, 15, 16, 17] l__law_right_3) (.cons (.ret (.op true (.isCls C_Reader) (.cons (.ask (.call F_before (.cons (.v 1) (.cons (.v 8) .nil)))) .nil))) .nil))))))
def f__law_right : TT.Fn := ⟨1, 18, false, b__law_right⟩
/-- law(_law_script): 0=_law_script 1=_law_k 2=_law_lap -/
def l_law_1 : TT.Ss := (.cons (.ite (.not (.call F__law_right (.cons (.call F__law_box (.cons (.v 0) (.cons (.v 1) (.cons (.v 2) .nil)))) .nil))) (.cons (.ret (.k (.bl false))) .nil) .nil) .nil)
def u_law_1 (c : TT.Cxt) (n : Nat) (e : TT.Env) (s : TT.Sto) := TT.evSs_of c n e s l_law_1.eq_1
def l_law_2 : TT.Ss := (.cons (.for (.nm 2) (.rng1 (.k (.int 2))) [2] l_law_1) .nil)
def u_law_2 (c : TT.Cxt) (n : Nat) (e : TT.Env) (s : TT.Sto) := TT.evSs_of c n e s l_law_2.eq_1
def b_law : TT.Ss := (.cons (.for (.nm 1) (.rng1 (.op true .max2 (.cons (.k (.int 1)) (.cons (.op true .min2 (.cons (.op true .len (.cons (.v 0) .nil)) (.cons (.k (.int 3)) .nil))) .nil)))) [1, 2] l_law_2) (.cons (.ret (.k (.bl true))) .nil))
def f_law : TT.Fn := ⟨1, 3, false, b_law⟩
def fns : List TT.Fn := [f_end_of, f_is_tree, f_check_tree, f_rows_in, f_key_of, f_parts, f_is_rising, f_are_tables, f_Reader___init__, f_Reader_become, f_Reader_book, f_Reader_moods, f_Reader_table, f_Reader_liked, f_Reader_lead, f_Reader_is_liked, f_Reader_mood, f_Reader_likes, f_read_by, f_told_reader, f_choices, f_reached, f_add, f_offer, f_offer_by, f_next_way, f_firsts, f_first_of, f_targets, f_marks_of, f_kinds_of, f_spots_of, f_sum_up, f_next_mood, f_made, f_is_made_row, f_Turner___init__, f_Turner_book, f_Turner_goals, f_Turner_states, f_Turner_row, f_folded, f_Through___init__, f_Through_of_row, f_Through_lead, f_must_be_like, f_Ahead___init__, f_Ahead_lead, f_Ahead_is_liked, f_before, f_Parts___init__, f_Parts_lead, f_Back___init__, f_Back_lead, f_Back_is_liked, f_back, f_Landing___init__, f_Landing_lead, f_Landing_is_liked, f_Landing_is_row, f_lands, f_shows_lands, f_is_name, f_check_book, f_Book___init__, f_Book_many, f_Book_name, f_Book_kids, f_Book_number, f_Book_is_like, f__law_cell, f__law_mix, f__law_box, f__law_take, f__law_signs, f__law_numbers, f__law_made, f__law_rows, f__law_tables, f__law_liked, f__law_lead, f__law_reader, f__law_told, f__law_other_book, f__law_refusals, f__law_alike_right, f__law_right, f_law]
def prog : TT.Prog := ⟨fns, [(0, 0, 9), (0, 1, 10), (0, 2, 11), (0, 3, 12), (0, 4, 13), (0, 5, 14), (0, 6, 15), (0, 7, 16), (0, 8, 17), (1, 1, 37), (1, 9, 38), (1, 10, 39), (1, 11, 40), (2, 13, 43), (2, 5, 44), (3, 5, 47), (3, 6, 48), (4, 5, 51), (5, 5, 53), (5, 6, 54), (6, 5, 57), (6, 6, 58), (6, 14, 59), (7, 15, 65), (7, 16, 66), (7, 17, 67), (7, 18, 68), (7, 19, 69)], [(0, 8), (1, 36), (2, 42), (3, 46), (4, 50), (5, 52), (6, 56), (7, 64)], [(1, "book"), (2, "tree"), (3, "place"), (4, "reader"), (5, "unlike"), (6, "great"), (7, "guesser"), (8, "pattern"), (9, "number"), (10, "turner"), (11, "text"), (12, "line"), (13, "name"), (14, "nothing")]⟩
@[simp] theorem m_Reader_become : prog.meth C_Reader M_become = some F_Reader_become := (rfl)
@[simp] theorem m_Reader_book : prog.meth C_Reader M_book = some F_Reader_book := (rfl)
@[simp] theorem m_Reader_moods : prog.meth C_Reader M_moods = some F_Reader_moods := (rfl)
@[simp] theorem m_Reader_table : prog.meth C_Reader M_table = some F_Reader_table := (rfl)
@[simp] theorem m_Reader_liked : prog.meth C_Reader M_liked = some F_Reader_liked := (rfl)
@[simp] theorem m_Reader_lead : prog.meth C_Reader M_lead = some F_Reader_lead := (rfl)
@[simp] theorem m_Reader_is_liked : prog.meth C_Reader M_is_liked = some F_Reader_is_liked := (rfl)
@[simp] theorem m_Reader_mood : prog.meth C_Reader M_mood = some F_Reader_mood := (rfl)
@[simp] theorem m_Reader_likes : prog.meth C_Reader M_likes = some F_Reader_likes := (rfl)
@[simp] theorem m_Turner_book : prog.meth C_Turner M_book = some F_Turner_book := (rfl)
@[simp] theorem m_Turner_goals : prog.meth C_Turner M_goals = some F_Turner_goals := (rfl)
@[simp] theorem m_Turner_states : prog.meth C_Turner M_states = some F_Turner_states := (rfl)
@[simp] theorem m_Turner_row : prog.meth C_Turner M_row = some F_Turner_row := (rfl)
@[simp] theorem m_Through_of_row : prog.meth C_Through M_of_row = some F_Through_of_row := (rfl)
@[simp] theorem m_Through_lead : prog.meth C_Through M_lead = some F_Through_lead := (rfl)
@[simp] theorem m_Ahead_lead : prog.meth C_Ahead M_lead = some F_Ahead_lead := (rfl)
@[simp] theorem m_Ahead_is_liked : prog.meth C_Ahead M_is_liked = some F_Ahead_is_liked := (rfl)
@[simp] theorem m_Parts_lead : prog.meth C_Parts M_lead = some F_Parts_lead := (rfl)
@[simp] theorem m_Back_lead : prog.meth C_Back M_lead = some F_Back_lead := (rfl)
@[simp] theorem m_Back_is_liked : prog.meth C_Back M_is_liked = some F_Back_is_liked := (rfl)
@[simp] theorem m_Landing_lead : prog.meth C_Landing M_lead = some F_Landing_lead := (rfl)
@[simp] theorem m_Landing_is_liked : prog.meth C_Landing M_is_liked = some F_Landing_is_liked := (rfl)
@[simp] theorem m_Landing_is_row : prog.meth C_Landing M_is_row = some F_Landing_is_row := (rfl)
@[simp] theorem m_Book_many : prog.meth C_Book M_many = some F_Book_many := (rfl)
@[simp] theorem m_Book_name : prog.meth C_Book M_name = some F_Book_name := (rfl)
@[simp] theorem m_Book_kids : prog.meth C_Book M_kids = some F_Book_kids := (rfl)
@[simp] theorem m_Book_number : prog.meth C_Book M_number = some F_Book_number := (rfl)
@[simp] theorem m_Book_is_like : prog.meth C_Book M_is_like = some F_Book_is_like := (rfl)
@[simp] theorem i_Reader : prog.init C_Reader = some F_Reader___init__ := (rfl)
@[simp] theorem i_Turner : prog.init C_Turner = some F_Turner___init__ := (rfl)
@[simp] theorem i_Through : prog.init C_Through = some F_Through___init__ := (rfl)
@[simp] theorem i_Ahead : prog.init C_Ahead = some F_Ahead___init__ := (rfl)
@[simp] theorem i_Parts : prog.init C_Parts = some F_Parts___init__ := (rfl)
@[simp] theorem i_Back : prog.init C_Back = some F_Back___init__ := (rfl)
@[simp] theorem i_Landing : prog.init C_Landing = some F_Landing___init__ := (rfl)
@[simp] theorem i_Book : prog.init C_Book = some F_Book___init__ := (rfl)
@[simp] theorem w_NoBook : prog.words.lookup X_NoBook = some ("book" : PySem.Str) := by decide +kernel
@[simp] theorem w_NoTree : prog.words.lookup X_NoTree = some ("tree" : PySem.Str) := by decide +kernel
@[simp] theorem w_NoPlace : prog.words.lookup X_NoPlace = some ("place" : PySem.Str) := by decide +kernel
@[simp] theorem w_NoReader : prog.words.lookup X_NoReader = some ("reader" : PySem.Str) := by decide +kernel
@[simp] theorem w_Unlike : prog.words.lookup X_Unlike = some ("unlike" : PySem.Str) := by decide +kernel
@[simp] theorem w_TooGreat : prog.words.lookup X_TooGreat = some ("great" : PySem.Str) := by decide +kernel
@[simp] theorem w_NoGuesser : prog.words.lookup X_NoGuesser = some ("guesser" : PySem.Str) := by decide +kernel
@[simp] theorem w_NoPattern : prog.words.lookup X_NoPattern = some ("pattern" : PySem.Str) := by decide +kernel
@[simp] theorem w_NoNumber : prog.words.lookup X_NoNumber = some ("number" : PySem.Str) := by decide +kernel
@[simp] theorem w_NoTurner : prog.words.lookup X_NoTurner = some ("turner" : PySem.Str) := by decide +kernel
@[simp] theorem w_NoText : prog.words.lookup X_NoText = some ("text" : PySem.Str) := by decide +kernel
@[simp] theorem w_NoLine : prog.words.lookup X_NoLine = some ("line" : PySem.Str) := by decide +kernel
@[simp] theorem w_NoName : prog.words.lookup X_NoName = some ("name" : PySem.Str) := by decide +kernel
@[simp] theorem w_Nothing : prog.words.lookup X_Nothing = some ("nothing" : PySem.Str) := by decide +kernel
theorem at_end_of (k : Nat) (ws : List TT.W) (s : TT.Sto) : TT.call prog (k + 1) F_end_of ws s = TT.runN 3 5 false (TT.cx prog k) b_end_of ws s := TT.call_at rfl k ws s
theorem at_is_tree (k : Nat) (ws : List TT.W) (s : TT.Sto) : TT.call prog (k + 1) F_is_tree ws s = TT.runN 2 2 false (TT.cx prog k) b_is_tree ws s := TT.call_at rfl k ws s
theorem at_check_tree (k : Nat) (ws : List TT.W) (s : TT.Sto) : TT.call prog (k + 1) F_check_tree ws s = TT.runN 2 2 false (TT.cx prog k) b_check_tree ws s := TT.call_at rfl k ws s
theorem at_rows_in (k : Nat) (ws : List TT.W) (s : TT.Sto) : TT.call prog (k + 1) F_rows_in ws s = TT.runN 2 4 false (TT.cx prog k) b_rows_in ws s := TT.call_at rfl k ws s
theorem at_key_of (k : Nat) (ws : List TT.W) (s : TT.Sto) : TT.call prog (k + 1) F_key_of ws s = TT.runN 2 7 false (TT.cx prog k) b_key_of ws s := TT.call_at rfl k ws s
theorem at_parts (k : Nat) (ws : List TT.W) (s : TT.Sto) : TT.call prog (k + 1) F_parts ws s = TT.runN 2 5 false (TT.cx prog k) b_parts ws s := TT.call_at rfl k ws s
theorem at_is_rising (k : Nat) (ws : List TT.W) (s : TT.Sto) : TT.call prog (k + 1) F_is_rising ws s = TT.runN 2 4 false (TT.cx prog k) b_is_rising ws s := TT.call_at rfl k ws s
theorem at_are_tables (k : Nat) (ws : List TT.W) (s : TT.Sto) : TT.call prog (k + 1) F_are_tables ws s = TT.runN 3 5 false (TT.cx prog k) b_are_tables ws s := TT.call_at rfl k ws s
theorem at_Reader___init__ (k : Nat) (ws : List TT.W) (s : TT.Sto) : TT.call prog (k + 1) F_Reader___init__ ws s = TT.runN 5 5 false (TT.cx prog k) b_Reader___init__ ws s := TT.call_at rfl k ws s
theorem at_Reader_become (k : Nat) (ws : List TT.W) (s : TT.Sto) : TT.call prog (k + 1) F_Reader_become ws s = TT.runN 4 5 false (TT.cx prog k) b_Reader_become ws s := TT.call_at rfl k ws s
theorem at_Reader_book (k : Nat) (ws : List TT.W) (s : TT.Sto) : TT.call prog (k + 1) F_Reader_book ws s = TT.runN 1 1 false (TT.cx prog k) b_Reader_book ws s := TT.call_at rfl k ws s
theorem at_Reader_moods (k : Nat) (ws : List TT.W) (s : TT.Sto) : TT.call prog (k + 1) F_Reader_moods ws s = TT.runN 1 1 false (TT.cx prog k) b_Reader_moods ws s := TT.call_at rfl k ws s
theorem at_Reader_table (k : Nat) (ws : List TT.W) (s : TT.Sto) : TT.call prog (k + 1) F_Reader_table ws s = TT.runN 2 2 false (TT.cx prog k) b_Reader_table ws s := TT.call_at rfl k ws s
theorem at_Reader_liked (k : Nat) (ws : List TT.W) (s : TT.Sto) : TT.call prog (k + 1) F_Reader_liked ws s = TT.runN 1 1 false (TT.cx prog k) b_Reader_liked ws s := TT.call_at rfl k ws s
theorem at_Reader_lead (k : Nat) (ws : List TT.W) (s : TT.Sto) : TT.call prog (k + 1) F_Reader_lead ws s = TT.runN 3 5 false (TT.cx prog k) b_Reader_lead ws s := TT.call_at rfl k ws s
theorem at_Reader_is_liked (k : Nat) (ws : List TT.W) (s : TT.Sto) : TT.call prog (k + 1) F_Reader_is_liked ws s = TT.runN 2 2 false (TT.cx prog k) b_Reader_is_liked ws s := TT.call_at rfl k ws s
theorem at_Reader_mood (k : Nat) (ws : List TT.W) (s : TT.Sto) : TT.call prog (k + 1) F_Reader_mood ws s = TT.runN 2 2 false (TT.cx prog k) b_Reader_mood ws s := TT.call_at rfl k ws s
theorem at_Reader_likes (k : Nat) (ws : List TT.W) (s : TT.Sto) : TT.call prog (k + 1) F_Reader_likes ws s = TT.runN 2 2 false (TT.cx prog k) b_Reader_likes ws s := TT.call_at rfl k ws s
theorem at_read_by (k : Nat) (ws : List TT.W) (s : TT.Sto) : TT.call prog (k + 1) F_read_by ws s = TT.runN 3 7 false (TT.cx prog k) b_read_by ws s := TT.call_at rfl k ws s
theorem at_told_reader (k : Nat) (ws : List TT.W) (s : TT.Sto) : TT.call prog (k + 1) F_told_reader ws s = TT.runN 4 6 false (TT.cx prog k) b_told_reader ws s := TT.call_at rfl k ws s
theorem at_choices (k : Nat) (ws : List TT.W) (s : TT.Sto) : TT.call prog (k + 1) F_choices ws s = TT.runN 2 7 false (TT.cx prog k) b_choices ws s := TT.call_at rfl k ws s
theorem at_reached (k : Nat) (ws : List TT.W) (s : TT.Sto) : TT.call prog (k + 1) F_reached ws s = TT.runN 2 7 false (TT.cx prog k) b_reached ws s := TT.call_at rfl k ws s
theorem at_add (k : Nat) (ws : List TT.W) (s : TT.Sto) : TT.call prog (k + 1) F_add ws s = TT.runN 3 3 false (TT.cx prog k) b_add ws s := TT.call_at rfl k ws s
theorem at_offer (k : Nat) (ws : List TT.W) (s : TT.Sto) : TT.call prog (k + 1) F_offer ws s = TT.runN 3 3 false (TT.cx prog k) b_offer ws s := TT.call_at rfl k ws s
theorem at_offer_by (k : Nat) (ws : List TT.W) (s : TT.Sto) : TT.call prog (k + 1) F_offer_by ws s = TT.runN 5 9 false (TT.cx prog k) b_offer_by ws s := TT.call_at rfl k ws s
theorem at_next_way (k : Nat) (ws : List TT.W) (s : TT.Sto) : TT.call prog (k + 1) F_next_way ws s = TT.runN 2 4 false (TT.cx prog k) b_next_way ws s := TT.call_at rfl k ws s
theorem at_firsts (k : Nat) (ws : List TT.W) (s : TT.Sto) : TT.call prog (k + 1) F_firsts ws s = TT.runN 2 13 false (TT.cx prog k) b_firsts ws s := TT.call_at rfl k ws s
theorem at_first_of (k : Nat) (ws : List TT.W) (s : TT.Sto) : TT.call prog (k + 1) F_first_of ws s = TT.runN 3 4 false (TT.cx prog k) b_first_of ws s := TT.call_at rfl k ws s
theorem at_targets (k : Nat) (ws : List TT.W) (s : TT.Sto) : TT.call prog (k + 1) F_targets ws s = TT.runN 3 8 false (TT.cx prog k) b_targets ws s := TT.call_at rfl k ws s
theorem at_marks_of (k : Nat) (ws : List TT.W) (s : TT.Sto) : TT.call prog (k + 1) F_marks_of ws s = TT.runN 2 8 false (TT.cx prog k) b_marks_of ws s := TT.call_at rfl k ws s
theorem at_kinds_of (k : Nat) (ws : List TT.W) (s : TT.Sto) : TT.call prog (k + 1) F_kinds_of ws s = TT.runN 2 6 false (TT.cx prog k) b_kinds_of ws s := TT.call_at rfl k ws s
theorem at_spots_of (k : Nat) (ws : List TT.W) (s : TT.Sto) : TT.call prog (k + 1) F_spots_of ws s = TT.runN 3 4 false (TT.cx prog k) b_spots_of ws s := TT.call_at rfl k ws s
theorem at_sum_up (k : Nat) (ws : List TT.W) (s : TT.Sto) : TT.call prog (k + 1) F_sum_up ws s = TT.runN 2 4 false (TT.cx prog k) b_sum_up ws s := TT.call_at rfl k ws s
theorem at_next_mood (k : Nat) (ws : List TT.W) (s : TT.Sto) : TT.call prog (k + 1) F_next_mood ws s = TT.runN 4 8 false (TT.cx prog k) b_next_mood ws s := TT.call_at rfl k ws s
theorem at_made (k : Nat) (ws : List TT.W) (s : TT.Sto) : TT.call prog (k + 1) F_made ws s = TT.runN 2 16 false (TT.cx prog k) b_made ws s := TT.call_at rfl k ws s
theorem at_is_made_row (k : Nat) (ws : List TT.W) (s : TT.Sto) : TT.call prog (k + 1) F_is_made_row ws s = TT.runN 4 6 false (TT.cx prog k) b_is_made_row ws s := TT.call_at rfl k ws s
theorem at_Turner___init__ (k : Nat) (ws : List TT.W) (s : TT.Sto) : TT.call prog (k + 1) F_Turner___init__ ws s = TT.runN 4 7 false (TT.cx prog k) b_Turner___init__ ws s := TT.call_at rfl k ws s
theorem at_Turner_book (k : Nat) (ws : List TT.W) (s : TT.Sto) : TT.call prog (k + 1) F_Turner_book ws s = TT.runN 1 1 false (TT.cx prog k) b_Turner_book ws s := TT.call_at rfl k ws s
theorem at_Turner_goals (k : Nat) (ws : List TT.W) (s : TT.Sto) : TT.call prog (k + 1) F_Turner_goals ws s = TT.runN 1 1 false (TT.cx prog k) b_Turner_goals ws s := TT.call_at rfl k ws s
theorem at_Turner_states (k : Nat) (ws : List TT.W) (s : TT.Sto) : TT.call prog (k + 1) F_Turner_states ws s = TT.runN 1 1 false (TT.cx prog k) b_Turner_states ws s := TT.call_at rfl k ws s
theorem at_Turner_row (k : Nat) (ws : List TT.W) (s : TT.Sto) : TT.call prog (k + 1) F_Turner_row ws s = TT.runN 3 3 false (TT.cx prog k) b_Turner_row ws s := TT.call_at rfl k ws s
theorem at_folded (k : Nat) (ws : List TT.W) (s : TT.Sto) : TT.call prog (k + 1) F_folded ws s = TT.runN 4 8 false (TT.cx prog k) b_folded ws s := TT.call_at rfl k ws s
theorem at_Through___init__ (k : Nat) (ws : List TT.W) (s : TT.Sto) : TT.call prog (k + 1) F_Through___init__ ws s = TT.runN 3 3 false (TT.cx prog k) b_Through___init__ ws s := TT.call_at rfl k ws s
theorem at_Through_of_row (k : Nat) (ws : List TT.W) (s : TT.Sto) : TT.call prog (k + 1) F_Through_of_row ws s = TT.runN 3 8 false (TT.cx prog k) b_Through_of_row ws s := TT.call_at rfl k ws s
theorem at_Through_lead (k : Nat) (ws : List TT.W) (s : TT.Sto) : TT.call prog (k + 1) F_Through_lead ws s = TT.runN 3 5 false (TT.cx prog k) b_Through_lead ws s := TT.call_at rfl k ws s
theorem at_must_be_like (k : Nat) (ws : List TT.W) (s : TT.Sto) : TT.call prog (k + 1) F_must_be_like ws s = TT.runN 2 2 false (TT.cx prog k) b_must_be_like ws s := TT.call_at rfl k ws s
theorem at_Ahead___init__ (k : Nat) (ws : List TT.W) (s : TT.Sto) : TT.call prog (k + 1) F_Ahead___init__ ws s = TT.runN 3 3 false (TT.cx prog k) b_Ahead___init__ ws s := TT.call_at rfl k ws s
theorem at_Ahead_lead (k : Nat) (ws : List TT.W) (s : TT.Sto) : TT.call prog (k + 1) F_Ahead_lead ws s = TT.runN 3 3 false (TT.cx prog k) b_Ahead_lead ws s := TT.call_at rfl k ws s
theorem at_Ahead_is_liked (k : Nat) (ws : List TT.W) (s : TT.Sto) : TT.call prog (k + 1) F_Ahead_is_liked ws s = TT.runN 2 2 false (TT.cx prog k) b_Ahead_is_liked ws s := TT.call_at rfl k ws s
theorem at_before (k : Nat) (ws : List TT.W) (s : TT.Sto) : TT.call prog (k + 1) F_before ws s = TT.runN 2 2 false (TT.cx prog k) b_before ws s := TT.call_at rfl k ws s
theorem at_Parts___init__ (k : Nat) (ws : List TT.W) (s : TT.Sto) : TT.call prog (k + 1) F_Parts___init__ ws s = TT.runN 3 3 false (TT.cx prog k) b_Parts___init__ ws s := TT.call_at rfl k ws s
theorem at_Parts_lead (k : Nat) (ws : List TT.W) (s : TT.Sto) : TT.call prog (k + 1) F_Parts_lead ws s = TT.runN 3 5 false (TT.cx prog k) b_Parts_lead ws s := TT.call_at rfl k ws s
theorem at_Back___init__ (k : Nat) (ws : List TT.W) (s : TT.Sto) : TT.call prog (k + 1) F_Back___init__ ws s = TT.runN 3 3 false (TT.cx prog k) b_Back___init__ ws s := TT.call_at rfl k ws s
theorem at_Back_lead (k : Nat) (ws : List TT.W) (s : TT.Sto) : TT.call prog (k + 1) F_Back_lead ws s = TT.runN 3 3 false (TT.cx prog k) b_Back_lead ws s := TT.call_at rfl k ws s
theorem at_Back_is_liked (k : Nat) (ws : List TT.W) (s : TT.Sto) : TT.call prog (k + 1) F_Back_is_liked ws s = TT.runN 2 2 false (TT.cx prog k) b_Back_is_liked ws s := TT.call_at rfl k ws s
theorem at_back (k : Nat) (ws : List TT.W) (s : TT.Sto) : TT.call prog (k + 1) F_back ws s = TT.runN 2 3 false (TT.cx prog k) b_back ws s := TT.call_at rfl k ws s
theorem at_Landing___init__ (k : Nat) (ws : List TT.W) (s : TT.Sto) : TT.call prog (k + 1) F_Landing___init__ ws s = TT.runN 4 4 false (TT.cx prog k) b_Landing___init__ ws s := TT.call_at rfl k ws s
theorem at_Landing_lead (k : Nat) (ws : List TT.W) (s : TT.Sto) : TT.call prog (k + 1) F_Landing_lead ws s = TT.runN 3 5 false (TT.cx prog k) b_Landing_lead ws s := TT.call_at rfl k ws s
theorem at_Landing_is_liked (k : Nat) (ws : List TT.W) (s : TT.Sto) : TT.call prog (k + 1) F_Landing_is_liked ws s = TT.runN 2 2 false (TT.cx prog k) b_Landing_is_liked ws s := TT.call_at rfl k ws s
theorem at_Landing_is_row (k : Nat) (ws : List TT.W) (s : TT.Sto) : TT.call prog (k + 1) F_Landing_is_row ws s = TT.runN 2 5 false (TT.cx prog k) b_Landing_is_row ws s := TT.call_at rfl k ws s
theorem at_lands (k : Nat) (ws : List TT.W) (s : TT.Sto) : TT.call prog (k + 1) F_lands ws s = TT.runN 3 6 false (TT.cx prog k) b_lands ws s := TT.call_at rfl k ws s
theorem at_shows_lands (k : Nat) (ws : List TT.W) (s : TT.Sto) : TT.call prog (k + 1) F_shows_lands ws s = TT.runN 4 9 false (TT.cx prog k) b_shows_lands ws s := TT.call_at rfl k ws s
theorem at_is_name (k : Nat) (ws : List TT.W) (s : TT.Sto) : TT.call prog (k + 1) F_is_name ws s = TT.runN 2 3 false (TT.cx prog k) b_is_name ws s := TT.call_at rfl k ws s
theorem at_check_book (k : Nat) (ws : List TT.W) (s : TT.Sto) : TT.call prog (k + 1) F_check_book ws s = TT.runN 1 5 false (TT.cx prog k) b_check_book ws s := TT.call_at rfl k ws s
theorem at_Book___init__ (k : Nat) (ws : List TT.W) (s : TT.Sto) : TT.call prog (k + 1) F_Book___init__ ws s = TT.runN 2 4 false (TT.cx prog k) b_Book___init__ ws s := TT.call_at rfl k ws s
theorem at_Book_many (k : Nat) (ws : List TT.W) (s : TT.Sto) : TT.call prog (k + 1) F_Book_many ws s = TT.runN 1 1 false (TT.cx prog k) b_Book_many ws s := TT.call_at rfl k ws s
theorem at_Book_name (k : Nat) (ws : List TT.W) (s : TT.Sto) : TT.call prog (k + 1) F_Book_name ws s = TT.runN 2 2 false (TT.cx prog k) b_Book_name ws s := TT.call_at rfl k ws s
theorem at_Book_kids (k : Nat) (ws : List TT.W) (s : TT.Sto) : TT.call prog (k + 1) F_Book_kids ws s = TT.runN 2 2 false (TT.cx prog k) b_Book_kids ws s := TT.call_at rfl k ws s
theorem at_Book_number (k : Nat) (ws : List TT.W) (s : TT.Sto) : TT.call prog (k + 1) F_Book_number ws s = TT.runN 2 2 false (TT.cx prog k) b_Book_number ws s := TT.call_at rfl k ws s
theorem at_Book_is_like (k : Nat) (ws : List TT.W) (s : TT.Sto) : TT.call prog (k + 1) F_Book_is_like ws s = TT.runN 2 2 false (TT.cx prog k) b_Book_is_like ws s := TT.call_at rfl k ws s
theorem at__law_cell (k : Nat) (ws : List TT.W) (s : TT.Sto) : TT.call prog (k + 1) F__law_cell ws s = TT.runN 2 2 false (TT.cx prog k) b__law_cell ws s := TT.call_at rfl k ws s
theorem at__law_mix (k : Nat) (ws : List TT.W) (s : TT.Sto) : TT.call prog (k + 1) F__law_mix ws s = TT.runN 2 4 false (TT.cx prog k) b__law_mix ws s := TT.call_at rfl k ws s
theorem at__law_box (k : Nat) (ws : List TT.W) (s : TT.Sto) : TT.call prog (k + 1) F__law_box ws s = TT.runN 3 6 true (TT.cx prog k) b__law_box ws s := TT.call_at rfl k ws s
theorem at__law_take (k : Nat) (ws : List TT.W) (s : TT.Sto) : TT.call prog (k + 1) F__law_take ws s = TT.runN 2 4 false (TT.cx prog k) b__law_take ws s := TT.call_at rfl k ws s
theorem at__law_signs (k : Nat) (ws : List TT.W) (s : TT.Sto) : TT.call prog (k + 1) F__law_signs ws s = TT.runN 1 8 false (TT.cx prog k) b__law_signs ws s := TT.call_at rfl k ws s
theorem at__law_numbers (k : Nat) (ws : List TT.W) (s : TT.Sto) : TT.call prog (k + 1) F__law_numbers ws s = TT.runN 1 3 false (TT.cx prog k) b__law_numbers ws s := TT.call_at rfl k ws s
theorem at__law_made (k : Nat) (ws : List TT.W) (s : TT.Sto) : TT.call prog (k + 1) F__law_made ws s = TT.runN 5 9 false (TT.cx prog k) b__law_made ws s := TT.call_at rfl k ws s
theorem at__law_rows (k : Nat) (ws : List TT.W) (s : TT.Sto) : TT.call prog (k + 1) F__law_rows ws s = TT.runN 4 7 false (TT.cx prog k) b__law_rows ws s := TT.call_at rfl k ws s
theorem at__law_tables (k : Nat) (ws : List TT.W) (s : TT.Sto) : TT.call prog (k + 1) F__law_tables ws s = TT.runN 3 5 false (TT.cx prog k) b__law_tables ws s := TT.call_at rfl k ws s
theorem at__law_liked (k : Nat) (ws : List TT.W) (s : TT.Sto) : TT.call prog (k + 1) F__law_liked ws s = TT.runN 2 3 false (TT.cx prog k) b__law_liked ws s := TT.call_at rfl k ws s
theorem at__law_lead (k : Nat) (ws : List TT.W) (s : TT.Sto) : TT.call prog (k + 1) F__law_lead ws s = TT.runN 4 6 false (TT.cx prog k) b__law_lead ws s := TT.call_at rfl k ws s
theorem at__law_reader (k : Nat) (ws : List TT.W) (s : TT.Sto) : TT.call prog (k + 1) F__law_reader ws s = TT.runN 3 4 false (TT.cx prog k) b__law_reader ws s := TT.call_at rfl k ws s
theorem at__law_told (k : Nat) (ws : List TT.W) (s : TT.Sto) : TT.call prog (k + 1) F__law_told ws s = TT.runN 2 2 false (TT.cx prog k) b__law_told ws s := TT.call_at rfl k ws s
theorem at__law_other_book (k : Nat) (ws : List TT.W) (s : TT.Sto) : TT.call prog (k + 1) F__law_other_book ws s = TT.runN 2 6 false (TT.cx prog k) b__law_other_book ws s := TT.call_at rfl k ws s
theorem at__law_refusals (k : Nat) (ws : List TT.W) (s : TT.Sto) : TT.call prog (k + 1) F__law_refusals ws s = TT.runN 4 5 false (TT.cx prog k) b__law_refusals ws s := TT.call_at rfl k ws s
theorem at__law_alike_right (k : Nat) (ws : List TT.W) (s : TT.Sto) : TT.call prog (k + 1) F__law_alike_right ws s = TT.runN 2 6 false (TT.cx prog k) b__law_alike_right ws s := TT.call_at rfl k ws s
theorem at__law_right (k : Nat) (ws : List TT.W) (s : TT.Sto) : TT.call prog (k + 1) F__law_right ws s = TT.runN 1 18 false (TT.cx prog k) b__law_right ws s := TT.call_at rfl k ws s
theorem at_law (k : Nat) (ws : List TT.W) (s : TT.Sto) : TT.call prog (k + 1) F_law ws s = TT.runN 1 3 false (TT.cx prog k) b_law ws s := TT.call_at rfl k ws s
end G

namespace G
open PySem PySem.Spec PyProof.Rows L2 TS
def top (i : Nat) : Stmt := PySem.Challenge.pw_treehands_k48_refusals_of_landing.main.body.getD i (.Pass ⟨0, 0, 0, 0⟩)
abbrev s0 : Stmt := top 19
def e0 : DefS := ⟨⟨("end_of", none), "end_of", "end_of", defArgs s0, defBody s0, defScope s0, [], []⟩, [("book" : Str), ("row" : Str), ("start" : Str), ("wanted" : Str), ("spot" : Str)], false⟩
abbrev s1 : Stmt := top 20
def e1 : DefS := ⟨⟨("is_tree", none), "is_tree", "is_tree", defArgs s1, defBody s1, defScope s1, [], []⟩, [("book" : Str), ("tree" : Str)], false⟩
abbrev s2 : Stmt := top 21
def e2 : DefS := ⟨⟨("check_tree", none), "check_tree", "check_tree", defArgs s2, defBody s2, defScope s2, [], []⟩, [("book" : Str), ("tree" : Str)], false⟩
abbrev s3 : Stmt := top 22
def e3 : DefS := ⟨⟨("rows_in", none), "rows_in", "rows_in", defArgs s3, defBody s3, defScope s3, [], []⟩, [("book" : Str), ("row" : Str), ("found" : Str), ("start" : Str)], false⟩
abbrev s4 : Stmt := top 23
def e4 : DefS := ⟨⟨("key_of", none), "key_of", "key_of", defArgs s4, defBody s4, defScope s4, [], []⟩, [("book" : Str), ("row" : Str), ("stack" : Str), ("found" : Str), ("sign" : Str), ("size" : Str), ("turn" : Str)], false⟩
abbrev s5 : Stmt := top 24
def e5 : DefS := ⟨⟨("parts", none), "parts", "parts", defArgs s5, defBody s5, defScope s5, [], []⟩, [("book" : Str), ("tree" : Str), ("found" : Str), ("row" : Str), ("key" : Str)], false⟩
abbrev s6 : Stmt := top 27
def e6 : DefS := ⟨⟨("is_rising", none), "is_rising", "is_rising", defArgs s6, defBody s6, defScope s6, [], []⟩, [("numbers" : Str), ("bound" : Str), ("last" : Str), ("number" : Str)], false⟩
abbrev s7 : Stmt := top 28
def e7 : DefS := ⟨⟨("are_tables", none), "are_tables", "are_tables", defArgs s7, defBody s7, defScope s7, [], []⟩, [("book" : Str), ("moods" : Str), ("tables" : Str), ("sign" : Str), ("mood" : Str)], false⟩
abbrev s8 : Stmt := inClass (top 29) 0
def e8 : DefS := ⟨⟨("Reader", some "__init__"), "__init__", "Reader.__init__", defArgs s8, defBody s8, defScope s8, [], []⟩, [("self" : Str), ("book" : Str), ("moods" : Str), ("tables" : Str), ("liked" : Str)], false⟩
abbrev s9 : Stmt := inClass (top 29) 1
def e9 : DefS := ⟨⟨("Reader", some "become"), "become", "Reader.become", defArgs s9, defBody s9, defScope s9, [], []⟩, [("self" : Str), ("moods" : Str), ("tables" : Str), ("liked" : Str), ("table" : Str)], false⟩
abbrev s10 : Stmt := inClass (top 29) 2
def e10 : DefS := ⟨⟨("Reader", some "book"), "book", "Reader.book", defArgs s10, defBody s10, defScope s10, [], []⟩, [("self" : Str)], false⟩
abbrev s11 : Stmt := inClass (top 29) 3
def e11 : DefS := ⟨⟨("Reader", some "moods"), "moods", "Reader.moods", defArgs s11, defBody s11, defScope s11, [], []⟩, [("self" : Str)], false⟩
abbrev s12 : Stmt := inClass (top 29) 4
def e12 : DefS := ⟨⟨("Reader", some "table"), "table", "Reader.table", defArgs s12, defBody s12, defScope s12, [], []⟩, [("self" : Str), ("sign" : Str)], false⟩
abbrev s13 : Stmt := inClass (top 29) 5
def e13 : DefS := ⟨⟨("Reader", some "liked"), "liked", "Reader.liked", defArgs s13, defBody s13, defScope s13, [], []⟩, [("self" : Str)], false⟩
abbrev s14 : Stmt := inClass (top 29) 6
def e14 : DefS := ⟨⟨("Reader", some "lead"), "lead", "Reader.lead", defArgs s14, defBody s14, defScope s14, [], []⟩, [("self" : Str), ("sign" : Str), ("kids" : Str), ("spot" : Str), ("mood" : Str)], false⟩
abbrev s15 : Stmt := inClass (top 29) 7
def e15 : DefS := ⟨⟨("Reader", some "is_liked"), "is_liked", "Reader.is_liked", defArgs s15, defBody s15, defScope s15, [], []⟩, [("self" : Str), ("mood" : Str)], false⟩
abbrev s16 : Stmt := inClass (top 29) 8
def e16 : DefS := ⟨⟨("Reader", some "mood"), "mood", "Reader.mood", defArgs s16, defBody s16, defScope s16, [], []⟩, [("self" : Str), ("tree" : Str)], false⟩
abbrev s17 : Stmt := inClass (top 29) 9
def e17 : DefS := ⟨⟨("Reader", some "likes"), "likes", "Reader.likes", defArgs s17, defBody s17, defScope s17, [], []⟩, [("self" : Str), ("tree" : Str)], false⟩
abbrev s18 : Stmt := top 30
def e18 : DefS := ⟨⟨("read_by", none), "read_by", "read_by", defArgs s18, defBody s18, defScope s18, [], []⟩, [("book" : Str), ("hand" : Str), ("row" : Str), ("stack" : Str), ("sign" : Str), ("kids" : Str), ("turn" : Str)], false⟩
abbrev s19 : Stmt := top 31
def e19 : DefS := ⟨⟨("told_reader", none), "told_reader", "told_reader", defArgs s19, defBody s19, defScope s19, [], []⟩, [("book" : Str), ("moods" : Str), ("tables" : Str), ("liked" : Str), ("found" : Str), ("sign" : Str)], false⟩
abbrev s20 : Stmt := top 34
def e20 : DefS := ⟨⟨("choices", none), "choices", "choices", defArgs s20, defBody s20, defScope s20, [], []⟩, [("things" : Str), ("count" : Str), ("rows" : Str), ("turn" : Str), ("longer" : Str), ("row" : Str), ("thing" : Str)], false⟩
abbrev s21 : Stmt := top 35
def e21 : DefS := ⟨⟨("reached", none), "reached", "reached", defArgs s21, defBody s21, defScope s21, [], []⟩, [("book" : Str), ("hand" : Str), ("found" : Str), ("seen" : Str), ("sign" : Str), ("spot" : Str), ("other" : Str)], false⟩
abbrev s22 : Stmt := top 36
def e22 : DefS := ⟨⟨("add", none), "add", "add", defArgs s22, defBody s22, defScope s22, [], []⟩, [("found" : Str), ("seen" : Str), ("raw" : Str)], false⟩
abbrev s23 : Stmt := top 37
def e23 : DefS := ⟨⟨("offer", none), "offer", "offer", defArgs s23, defBody s23, defScope s23, [], []⟩, [("waits" : Str), ("raw" : Str), ("way" : Str)], false⟩
abbrev s24 : Stmt := top 38
def e24 : DefS := ⟨⟨("offer_by", none), "offer_by", "offer_by", defArgs s24, defBody s24, defScope s24, [], []⟩, [("book" : Str), ("hand" : Str), ("waits" : Str), ("done" : Str), ("sizes" : Str), ("last" : Str), ("sign" : Str), ("other" : Str), ("size" : Str)], false⟩
abbrev s25 : Stmt := top 39
def e25 : DefS := ⟨⟨("next_way", none), "next_way", "next_way", defArgs s25, defBody s25, defScope s25, [], []⟩, [("waits" : Str), ("seen" : Str), ("best" : Str), ("raw" : Str)], false⟩
abbrev s26 : Stmt := top 40
def e26 : DefS := ⟨⟨("firsts", none), "firsts", "firsts", defArgs s26, defBody s26, defScope s26, [], []⟩, [("book" : Str), ("hand" : Str), ("waits" : Str), ("seen" : Str), ("done" : Str), ("sizes" : Str), ("rows" : Str), ("sign" : Str), ("found" : Str), ("spot" : Str), ("row" : Str), ("way" : Str), ("raw" : Str)], false⟩
abbrev s27 : Stmt := top 41
def e27 : DefS := ⟨⟨("first_of", none), "first_of", "first_of", defArgs s27, defBody s27, defScope s27, [], []⟩, [("book" : Str), ("found" : Str), ("hand" : Str), ("raw" : Str)], false⟩
abbrev s28 : Stmt := top 42
def e28 : DefS := ⟨⟨("targets", none), "targets", "targets", defArgs s28, defBody s28, defScope s28, [], []⟩, [("book" : Str), ("hand" : Str), ("raws" : Str), ("numbers" : Str), ("raw" : Str), ("found" : Str), ("sign" : Str), ("row" : Str)], false⟩
abbrev s29 : Stmt := top 43
def e29 : DefS := ⟨⟨("marks_of", none), "marks_of", "marks_of", defArgs s29, defBody s29, defScope s29, [], []⟩, [("tables" : Str), ("kinds" : Str), ("total" : Str), ("found" : Str), ("mood" : Str), ("marks" : Str), ("table" : Str), ("other" : Str)], false⟩
abbrev s30 : Stmt := top 44
def e30 : DefS := ⟨⟨("kinds_of", none), "kinds_of", "kinds_of", defArgs s30, defBody s30, defScope s30, [], []⟩, [("tables" : Str), ("kinds" : Str), ("count" : Str), ("numbers" : Str), ("found" : Str), ("mark" : Str)], false⟩
abbrev s31 : Stmt := top 45
def e31 : DefS := ⟨⟨("spots_of", none), "spots_of", "spots_of", defArgs s31, defBody s31, defScope s31, [], []⟩, [("count" : Str), ("total" : Str), ("numbered" : Str), ("row" : Str)], false⟩
abbrev s32 : Stmt := top 46
def e32 : DefS := ⟨⟨("sum_up", none), "sum_up", "sum_up", defArgs s32, defBody s32, defScope s32, [], []⟩, [("row" : Str), ("total" : Str), ("spot" : Str), ("mood" : Str)], false⟩
abbrev s33 : Stmt := top 47
def e33 : DefS := ⟨⟨("next_mood", none), "next_mood", "next_mood", defArgs s33, defBody s33, defScope s33, [], []⟩, [("book" : Str), ("tables" : Str), ("kinds" : Str), ("numbered" : Str), ("have" : Str), ("mood" : Str), ("sign" : Str), ("spot" : Str)], false⟩
abbrev s34 : Stmt := top 48
def e34 : DefS := ⟨⟨("made", none), "made", "made", defArgs s34, defBody s34, defScope s34, [], []⟩, [("book" : Str), ("hand" : Str), ("raws" : Str), ("tables" : Str), ("likings" : Str), ("kinds" : Str), ("numbered" : Str), ("mood" : Str), ("numbers" : Str), ("told" : Str), ("sign" : Str), ("liked" : Str), ("spots" : Str), ("raw" : Str), ("spot" : Str), ("liking" : Str)], false⟩
abbrev s35 : Stmt := top 52
def e35 : DefS := ⟨⟨("is_made_row", none), "is_made_row", "is_made_row", defArgs s35, defBody s35, defScope s35, [], []⟩, [("goals" : Str), ("states" : Str), ("kids" : Str), ("row" : Str), ("lacks" : Str), ("item" : Str)], false⟩
abbrev s36 : Stmt := inClass (top 53) 0
def e36 : DefS := ⟨⟨("Turner", some "__init__"), "__init__", "Turner.__init__", defArgs s36, defBody s36, defScope s36, [], []⟩, [("self" : Str), ("book" : Str), ("goals" : Str), ("rows" : Str), ("some" : Str), ("sign" : Str), ("row" : Str)], false⟩
abbrev s37 : Stmt := inClass (top 53) 1
def e37 : DefS := ⟨⟨("Turner", some "book"), "book", "Turner.book", defArgs s37, defBody s37, defScope s37, [], []⟩, [("self" : Str)], false⟩
abbrev s38 : Stmt := inClass (top 53) 2
def e38 : DefS := ⟨⟨("Turner", some "goals"), "goals", "Turner.goals", defArgs s38, defBody s38, defScope s38, [], []⟩, [("self" : Str)], false⟩
abbrev s39 : Stmt := inClass (top 53) 3
def e39 : DefS := ⟨⟨("Turner", some "states"), "states", "Turner.states", defArgs s39, defBody s39, defScope s39, [], []⟩, [("self" : Str)], false⟩
abbrev s40 : Stmt := inClass (top 53) 4
def e40 : DefS := ⟨⟨("Turner", some "row"), "row", "Turner.row", defArgs s40, defBody s40, defScope s40, [], []⟩, [("self" : Str), ("state" : Str), ("sign" : Str)], false⟩
abbrev s41 : Stmt := top 54
def e41 : DefS := ⟨⟨("folded", none), "folded", "folded", defArgs s41, defBody s41, defScope s41, [], []⟩, [("book" : Str), ("row" : Str), ("hand" : Str), ("given" : Str), ("waiting" : Str), ("item" : Str), ("kids" : Str), ("kid" : Str)], false⟩
abbrev s42 : Stmt := inClass (top 55) 0
def e42 : DefS := ⟨⟨("Through", some "__init__"), "__init__", "Through.__init__", defArgs s42, defBody s42, defScope s42, [], []⟩, [("self" : Str), ("turner" : Str), ("inner" : Str)], false⟩
abbrev s43 : Stmt := inClass (top 55) 1
def e43 : DefS := ⟨⟨("Through", some "of_row"), "of_row", "Through.of_row", defArgs s43, defBody s43, defScope s43, [], []⟩, [("self" : Str), ("row" : Str), ("kids" : Str), ("given" : Str), ("kid" : Str), ("some" : Str), ("state" : Str), ("thing" : Str)], false⟩
abbrev s44 : Stmt := inClass (top 55) 2
def e44 : DefS := ⟨⟨("Through", some "lead"), "lead", "Through.lead", defArgs s44, defBody s44, defScope s44, [], []⟩, [("self" : Str), ("sign" : Str), ("kids" : Str), ("found" : Str), ("state" : Str)], false⟩
abbrev s45 : Stmt := top 56
def e45 : DefS := ⟨⟨("must_be_like", none), "must_be_like", "must_be_like", defArgs s45, defBody s45, defScope s45, [], []⟩, [("one" : Str), ("other" : Str)], false⟩
abbrev s46 : Stmt := inClass (top 59) 0
def e46 : DefS := ⟨⟨("Ahead", some "__init__"), "__init__", "Ahead.__init__", defArgs s46, defBody s46, defScope s46, [], []⟩, [("self" : Str), ("turner" : Str), ("reader" : Str)], false⟩
abbrev s47 : Stmt := inClass (top 59) 1
def e47 : DefS := ⟨⟨("Ahead", some "lead"), "lead", "Ahead.lead", defArgs s47, defBody s47, defScope s47, [], []⟩, [("self" : Str), ("sign" : Str), ("kids" : Str)], false⟩
abbrev s48 : Stmt := inClass (top 59) 2
def e48 : DefS := ⟨⟨("Ahead", some "is_liked"), "is_liked", "Ahead.is_liked", defArgs s48, defBody s48, defScope s48, [], []⟩, [("self" : Str), ("found" : Str)], false⟩
abbrev s49 : Stmt := top 60
def e49 : DefS := ⟨⟨("before", none), "before", "before", defArgs s49, defBody s49, defScope s49, [], []⟩, [("turner" : Str), ("reader" : Str)], false⟩
abbrev s50 : Stmt := inClass (top 61) 0
def e50 : DefS := ⟨⟨("Parts", some "__init__"), "__init__", "Parts.__init__", defArgs s50, defBody s50, defScope s50, [], []⟩, [("self" : Str), ("book" : Str), ("tree" : Str)], false⟩
abbrev s51 : Stmt := inClass (top 61) 1
def e51 : DefS := ⟨⟨("Parts", some "lead"), "lead", "Parts.lead", defArgs s51, defBody s51, defScope s51, [], []⟩, [("self" : Str), ("sign" : Str), ("kids" : Str), ("row" : Str), ("kid" : Str)], false⟩
abbrev s52 : Stmt := inClass (top 62) 0
def e52 : DefS := ⟨⟨("Back", some "__init__"), "__init__", "Back.__init__", defArgs s52, defBody s52, defScope s52, [], []⟩, [("self" : Str), ("turner" : Str), ("tree" : Str)], false⟩
abbrev s53 : Stmt := inClass (top 62) 1
def e53 : DefS := ⟨⟨("Back", some "lead"), "lead", "Back.lead", defArgs s53, defBody s53, defScope s53, [], []⟩, [("self" : Str), ("sign" : Str), ("kids" : Str)], false⟩
abbrev s54 : Stmt := inClass (top 62) 2
def e54 : DefS := ⟨⟨("Back", some "is_liked"), "is_liked", "Back.is_liked", defArgs s54, defBody s54, defScope s54, [], []⟩, [("self" : Str), ("found" : Str)], false⟩
abbrev s55 : Stmt := top 63
def e55 : DefS := ⟨⟨("back", none), "back", "back", defArgs s55, defBody s55, defScope s55, [], []⟩, [("turner" : Str), ("tree" : Str), ("hand" : Str)], false⟩
abbrev s56 : Stmt := inClass (top 64) 0
def e56 : DefS := ⟨⟨("Landing", some "__init__"), "__init__", "Landing.__init__", defArgs s56, defBody s56, defScope s56, [], []⟩, [("self" : Str), ("turner" : Str), ("source" : Str), ("goal" : Str)], false⟩
abbrev s57 : Stmt := inClass (top 64) 1
def e57 : DefS := ⟨⟨("Landing", some "lead"), "lead", "Landing.lead", defArgs s57, defBody s57, defScope s57, [], []⟩, [("self" : Str), ("sign" : Str), ("kids" : Str), ("mood" : Str), ("kid" : Str)], false⟩
abbrev s58 : Stmt := inClass (top 64) 2
def e58 : DefS := ⟨⟨("Landing", some "is_liked"), "is_liked", "Landing.is_liked", defArgs s58, defBody s58, defScope s58, [], []⟩, [("self" : Str), ("found" : Str)], false⟩
abbrev s59 : Stmt := inClass (top 64) 3
def e59 : DefS := ⟨⟨("Landing", some "is_row"), "is_row", "Landing.is_row", defArgs s59, defBody s59, defScope s59, [], []⟩, [("self" : Str), ("found" : Str), ("mood" : Str), ("moods" : Str), ("one" : Str)], false⟩
abbrev s60 : Stmt := top 65
def e60 : DefS := ⟨⟨("lands", none), "lands", "lands", defArgs s60, defBody s60, defScope s60, [], []⟩, [("turner" : Str), ("source" : Str), ("goal" : Str), ("landing" : Str), ("found" : Str), ("tree" : Str)], false⟩
abbrev s61 : Stmt := top 66
def e61 : DefS := ⟨⟨("shows_lands", none), "shows_lands", "shows_lands", defArgs s61, defBody s61, defScope s61, [], []⟩, [("turner" : Str), ("source" : Str), ("goal" : Str), ("rows" : Str), ("landing" : Str), ("row" : Str), ("known" : Str), ("sign" : Str), ("kids" : Str)], false⟩
abbrev s62 : Stmt := top 70
def e62 : DefS := ⟨⟨("is_name", none), "is_name", "is_name", defArgs s62, defBody s62, defScope s62, [], []⟩, [("text" : Str), ("most" : Str), ("letter" : Str)], false⟩
abbrev s63 : Stmt := top 71
def e63 : DefS := ⟨⟨("check_book", none), "check_book", "check_book", defArgs s63, defBody s63, defScope s63, [], []⟩, [("signs" : Str), ("names" : Str), ("leaves" : Str), ("name" : Str), ("kids" : Str)], false⟩
abbrev s64 : Stmt := inClass (top 72) 0
def e64 : DefS := ⟨⟨("Book", some "__init__"), "__init__", "Book.__init__", defArgs s64, defBody s64, defScope s64, [], []⟩, [("self" : Str), ("signs" : Str), ("name" : Str), ("kids" : Str)], false⟩
abbrev s65 : Stmt := inClass (top 72) 1
def e65 : DefS := ⟨⟨("Book", some "many"), "many", "Book.many", defArgs s65, defBody s65, defScope s65, [], []⟩, [("self" : Str)], false⟩
abbrev s66 : Stmt := inClass (top 72) 2
def e66 : DefS := ⟨⟨("Book", some "name"), "name", "Book.name", defArgs s66, defBody s66, defScope s66, [], []⟩, [("self" : Str), ("sign" : Str)], false⟩
abbrev s67 : Stmt := inClass (top 72) 3
def e67 : DefS := ⟨⟨("Book", some "kids"), "kids", "Book.kids", defArgs s67, defBody s67, defScope s67, [], []⟩, [("self" : Str), ("sign" : Str)], false⟩
abbrev s68 : Stmt := inClass (top 72) 4
def e68 : DefS := ⟨⟨("Book", some "number"), "number", "Book.number", defArgs s68, defBody s68, defScope s68, [], []⟩, [("self" : Str), ("name" : Str)], false⟩
abbrev s69 : Stmt := inClass (top 72) 5
def e69 : DefS := ⟨⟨("Book", some "is_like"), "is_like", "Book.is_like", defArgs s69, defBody s69, defScope s69, [], []⟩, [("self" : Str), ("book" : Str)], false⟩
abbrev s70 : Stmt := top 74
def e70 : DefS := ⟨⟨("_law_cell", none), "_law_cell", "_law_cell", defArgs s70, defBody s70, defScope s70, [], []⟩, [("_law_script" : Str), ("_law_k" : Str)], false⟩
abbrev s71 : Stmt := top 75
def e71 : DefS := ⟨⟨("_law_mix", none), "_law_mix", "_law_mix", defArgs s71, defBody s71, defScope s71, [], []⟩, [("_law_cell_here" : Str), ("_law_k" : Str), ("_law_some" : Str), ("_law_stir" : Str)], false⟩
abbrev s72 : Stmt := top 76
def e72 : DefS := ⟨⟨("_law_box", none), "_law_box", "_law_box", defArgs s72, defBody s72, defScope s72, [], []⟩, [("_law_script" : Str), ("_law_k" : Str), ("_law_lap" : Str), ("_law_cell_here" : Str), ("_law_number" : Str), ("_law_j" : Str)], false⟩
abbrev s73 : Stmt := top 77
def e73 : DefS := ⟨⟨("_law_take", none), "_law_take", "_law_take", defArgs s73, defBody s73, defScope s73, [], []⟩, [("_law_box_here" : Str), ("_law_bound" : Str), ("_law_left" : Str), ("_law_digit" : Str)], false⟩
abbrev s74 : Stmt := top 78
def e74 : DefS := ⟨⟨("_law_signs", none), "_law_signs", "_law_signs", defArgs s74, defBody s74, defScope s74, [], []⟩, [("_law_box_here" : Str), ("_law_letters" : Str), ("_law_count" : Str), ("_law_leaf" : Str), ("_law_found" : Str), ("_law_sign" : Str), ("_law_name" : Str), ("_law_kids" : Str)], false⟩
abbrev s75 : Stmt := top 79
def e75 : DefS := ⟨⟨("_law_numbers", none), "_law_numbers", "_law_numbers", defArgs s75, defBody s75, defScope s75, [], []⟩, [("_law_signs_here" : Str), ("_law_name" : Str), ("_law_kids" : Str)], false⟩
abbrev s76 : Stmt := top 80
def e76 : DefS := ⟨⟨("_law_made", none), "_law_made", "_law_made", defArgs s76, defBody s76, defScope s76, [], []⟩, [("_law_box_here" : Str), ("_law_kids" : Str), ("_law_goals" : Str), ("_law_states" : Str), ("_law_most" : Str), ("_law_row" : Str), ("_law_wanted" : Str), ("_law_some" : Str), ("_law_sign" : Str)], false⟩
abbrev s77 : Stmt := top 81
def e77 : DefS := ⟨⟨("_law_rows", none), "_law_rows", "_law_rows", defArgs s77, defBody s77, defScope s77, [], []⟩, [("_law_box_here" : Str), ("_law_kids" : Str), ("_law_goals" : Str), ("_law_most" : Str), ("_law_states" : Str), ("_law_state" : Str), ("_law_count" : Str)], false⟩
abbrev s78 : Stmt := top 82
def e78 : DefS := ⟨⟨("_law_tables", none), "_law_tables", "_law_tables", defArgs s78, defBody s78, defScope s78, [], []⟩, [("_law_box_here" : Str), ("_law_kids" : Str), ("_law_moods" : Str), ("_law_count" : Str), ("_law_spot" : Str)], false⟩
abbrev s79 : Stmt := top 83
def e79 : DefS := ⟨⟨("_law_liked", none), "_law_liked", "_law_liked", defArgs s79, defBody s79, defScope s79, [], []⟩, [("_law_box_here" : Str), ("_law_moods" : Str), ("_law_mood" : Str)], false⟩
abbrev s80 : Stmt := top 84
def e80 : DefS := ⟨⟨("_law_lead", none), "_law_lead", "_law_lead", defArgs s80, defBody s80, defScope s80, [], []⟩, [("_law_tables_here" : Str), ("_law_moods" : Str), ("_law_sign" : Str), ("_law_row" : Str), ("_law_spot" : Str), ("_law_mood" : Str)], false⟩
abbrev s81 : Stmt := top 85
def e81 : DefS := ⟨⟨("_law_reader", none), "_law_reader", "_law_reader", defArgs s81, defBody s81, defScope s81, [], []⟩, [("_law_box_here" : Str), ("_law_kids" : Str), ("_law_most" : Str), ("_law_moods" : Str)], false⟩
abbrev s82 : Stmt := top 86
def e82 : DefS := ⟨⟨("_law_told", none), "_law_told", "_law_told", defArgs s82, defBody s82, defScope s82, [], []⟩, [("_law_signs_here" : Str), ("_law_some" : Str)], false⟩
abbrev s83 : Stmt := top 87
def e83 : DefS := ⟨⟨("_law_other_book", none), "_law_other_book", "_law_other_book", defArgs s83, defBody s83, defScope s83, [], []⟩, [("_law_box_here" : Str), ("_law_signs_here" : Str), ("_law_spot" : Str), ("_law_way" : Str), ("_law_name" : Str), ("_law_kids" : Str)], false⟩
abbrev s84 : Stmt := top 90
def e84 : DefS := ⟨⟨("_law_refusals", none), "_law_refusals", "_law_refusals", defArgs s84, defBody s84, defScope s84, [], []⟩, [("_law_turner" : Str), ("_law_source" : Str), ("_law_goal" : Str), ("_law_rows_here" : Str), ("_law_found" : Str)], true⟩
abbrev s85 : Stmt := top 91
def e85 : DefS := ⟨⟨("_law_alike_right", none), "_law_alike_right", "_law_alike_right", defArgs s85, defBody s85, defScope s85, [], []⟩, [("_law_signs_here" : Str), ("_law_goals" : Str), ("_law_one" : Str), ("_law_other" : Str), ("_law_name" : Str), ("_law_kids" : Str)], false⟩
abbrev s86 : Stmt := top 92
def e86 : DefS := ⟨⟨("_law_right", none), "_law_right", "_law_right", defArgs s86, defBody s86, defScope s86, [], []⟩, [("_law_box_here" : Str), ("_law_turner" : Str), ("_law_turn" : Str), ("_law_signs_here" : Str), ("_law_goals" : Str), ("_law_kids" : Str), ("_law_goal_kids" : Str), ("_law_source" : Str), ("_law_goal" : Str), ("_law_far" : Str), ("_law_far_goals" : Str), ("_law_one" : Str), ("_law_other" : Str), ("_law_row" : Str), ("_law_rows_here" : Str), ("_law_some" : Str), ("_law_bad" : Str), ("_law_k" : Str)], true⟩
abbrev s87 : Stmt := top 93
def e87 : DefS := ⟨⟨("law", none), "law", "law", defArgs s87, defBody s87, defScope s87, [], []⟩, [("_law_script" : Str), ("_law_k" : Str), ("_law_lap" : Str)], false⟩
def ds : List DefS := [e0, e1, e2, e3, e4, e5, e6, e7, e8, e9, e10, e11, e12, e13, e14, e15, e16, e17, e18, e19, e20, e21, e22, e23, e24, e25, e26, e27, e28, e29, e30, e31, e32, e33, e34, e35, e36, e37, e38, e39, e40, e41, e42, e43, e44, e45, e46, e47, e48, e49, e50, e51, e52, e53, e54, e55, e56, e57, e58, e59, e60, e61, e62, e63, e64, e65, e66, e67, e68, e69, e70, e71, e72, e73, e74, e75, e76, e77, e78, e79, e80, e81, e82, e83, e84, e85, e86, e87]
def sig : Sig where
  N := ⟨[("Reader" : Str), ("Turner" : Str), ("Through" : Str), ("Ahead" : Str), ("Parts" : Str), ("Back" : Str), ("Landing" : Str), ("Book" : Str)], [("own_book" : Str), ("own_moods" : Str), ("own_tables" : Str), ("own_liked" : Str), ("own_goals" : Str), ("own_rows" : Str), ("own_turner" : Str), ("own_inner" : Str), ("own_reader" : Str), ("own_through" : Str), ("own_parts" : Str), ("own_tree" : Str), ("own_ahead" : Str), ("own_source" : Str), ("own_goal" : Str), ("names_told" : Str), ("kids_told" : Str)], [("become" : Str), ("book" : Str), ("moods" : Str), ("table" : Str), ("liked" : Str), ("lead" : Str), ("is_liked" : Str), ("mood" : Str), ("likes" : Str), ("goals" : Str), ("states" : Str), ("row" : Str), ("with_rows" : Str), ("of_row" : Str), ("is_row" : Str), ("many" : Str), ("name" : Str), ("kids" : Str), ("number" : Str), ("is_like" : Str)], [("HandError" : Str), ("NoBook" : Str), ("NoTree" : Str), ("NoPlace" : Str), ("NoReader" : Str), ("Unlike" : Str), ("TooGreat" : Str), ("NoGuesser" : Str), ("NoPattern" : Str), ("NoNumber" : Str), ("NoTurner" : Str), ("NoText" : Str), ("NoLine" : Str), ("NoName" : Str), ("Nothing" : Str)]⟩
  P := prog
  ats := [(("end_of" : Str), (none : Option Str)), (("is_tree" : Str), (none : Option Str)), (("check_tree" : Str), (none : Option Str)), (("rows_in" : Str), (none : Option Str)), (("key_of" : Str), (none : Option Str)), (("parts" : Str), (none : Option Str)), (("is_rising" : Str), (none : Option Str)), (("are_tables" : Str), (none : Option Str)), (("Reader" : Str), some ("__init__" : Str)), (("Reader" : Str), some ("become" : Str)), (("Reader" : Str), some ("book" : Str)), (("Reader" : Str), some ("moods" : Str)), (("Reader" : Str), some ("table" : Str)), (("Reader" : Str), some ("liked" : Str)), (("Reader" : Str), some ("lead" : Str)), (("Reader" : Str), some ("is_liked" : Str)), (("Reader" : Str), some ("mood" : Str)), (("Reader" : Str), some ("likes" : Str)), (("read_by" : Str), (none : Option Str)), (("told_reader" : Str), (none : Option Str)), (("choices" : Str), (none : Option Str)), (("reached" : Str), (none : Option Str)), (("add" : Str), (none : Option Str)), (("offer" : Str), (none : Option Str)), (("offer_by" : Str), (none : Option Str)), (("next_way" : Str), (none : Option Str)), (("firsts" : Str), (none : Option Str)), (("first_of" : Str), (none : Option Str)), (("targets" : Str), (none : Option Str)), (("marks_of" : Str), (none : Option Str)), (("kinds_of" : Str), (none : Option Str)), (("spots_of" : Str), (none : Option Str)), (("sum_up" : Str), (none : Option Str)), (("next_mood" : Str), (none : Option Str)), (("made" : Str), (none : Option Str)), (("is_made_row" : Str), (none : Option Str)), (("Turner" : Str), some ("__init__" : Str)), (("Turner" : Str), some ("book" : Str)), (("Turner" : Str), some ("goals" : Str)), (("Turner" : Str), some ("states" : Str)), (("Turner" : Str), some ("row" : Str)), (("folded" : Str), (none : Option Str)), (("Through" : Str), some ("__init__" : Str)), (("Through" : Str), some ("of_row" : Str)), (("Through" : Str), some ("lead" : Str)), (("must_be_like" : Str), (none : Option Str)), (("Ahead" : Str), some ("__init__" : Str)), (("Ahead" : Str), some ("lead" : Str)), (("Ahead" : Str), some ("is_liked" : Str)), (("before" : Str), (none : Option Str)), (("Parts" : Str), some ("__init__" : Str)), (("Parts" : Str), some ("lead" : Str)), (("Back" : Str), some ("__init__" : Str)), (("Back" : Str), some ("lead" : Str)), (("Back" : Str), some ("is_liked" : Str)), (("back" : Str), (none : Option Str)), (("Landing" : Str), some ("__init__" : Str)), (("Landing" : Str), some ("lead" : Str)), (("Landing" : Str), some ("is_liked" : Str)), (("Landing" : Str), some ("is_row" : Str)), (("lands" : Str), (none : Option Str)), (("shows_lands" : Str), (none : Option Str)), (("is_name" : Str), (none : Option Str)), (("check_book" : Str), (none : Option Str)), (("Book" : Str), some ("__init__" : Str)), (("Book" : Str), some ("many" : Str)), (("Book" : Str), some ("name" : Str)), (("Book" : Str), some ("kids" : Str)), (("Book" : Str), some ("number" : Str)), (("Book" : Str), some ("is_like" : Str)), (("_law_cell" : Str), (none : Option Str)), (("_law_mix" : Str), (none : Option Str)), (("_law_box" : Str), (none : Option Str)), (("_law_take" : Str), (none : Option Str)), (("_law_signs" : Str), (none : Option Str)), (("_law_numbers" : Str), (none : Option Str)), (("_law_made" : Str), (none : Option Str)), (("_law_rows" : Str), (none : Option Str)), (("_law_tables" : Str), (none : Option Str)), (("_law_liked" : Str), (none : Option Str)), (("_law_lead" : Str), (none : Option Str)), (("_law_reader" : Str), (none : Option Str)), (("_law_told" : Str), (none : Option Str)), (("_law_other_book" : Str), (none : Option Str)), (("_law_refusals" : Str), (none : Option Str)), (("_law_alike_right" : Str), (none : Option Str)), (("_law_right" : Str), (none : Option Str)), (("law" : Str), (none : Option Str))]
  gl := [(("end_of" : Str), 0), (("is_tree" : Str), 1), (("check_tree" : Str), 2), (("rows_in" : Str), 3), (("key_of" : Str), 4), (("parts" : Str), 5), (("is_rising" : Str), 6), (("are_tables" : Str), 7), (("read_by" : Str), 18), (("told_reader" : Str), 19), (("choices" : Str), 20), (("reached" : Str), 21), (("add" : Str), 22), (("offer" : Str), 23), (("offer_by" : Str), 24), (("next_way" : Str), 25), (("firsts" : Str), 26), (("first_of" : Str), 27), (("targets" : Str), 28), (("marks_of" : Str), 29), (("kinds_of" : Str), 30), (("spots_of" : Str), 31), (("sum_up" : Str), 32), (("next_mood" : Str), 33), (("made" : Str), 34), (("is_made_row" : Str), 35), (("folded" : Str), 41), (("must_be_like" : Str), 45), (("before" : Str), 49), (("back" : Str), 55), (("lands" : Str), 60), (("shows_lands" : Str), 61), (("is_name" : Str), 62), (("check_book" : Str), 63), (("_law_cell" : Str), 70), (("_law_mix" : Str), 71), (("_law_box" : Str), 72), (("_law_take" : Str), 73), (("_law_signs" : Str), 74), (("_law_numbers" : Str), 75), (("_law_made" : Str), 76), (("_law_rows" : Str), 77), (("_law_tables" : Str), 78), (("_law_liked" : Str), 79), (("_law_lead" : Str), 80), (("_law_reader" : Str), 81), (("_law_told" : Str), 82), (("_law_other_book" : Str), 83), (("_law_refusals" : Str), 84), (("_law_alike_right" : Str), 85), (("_law_right" : Str), 86), (("law" : Str), 87)]
  cls := [(("Reader" : Str), 0), (("Turner" : Str), 1), (("Through" : Str), 2), (("Ahead" : Str), 3), (("Parts" : Str), 4), (("Back" : Str), 5), (("Landing" : Str), 6), (("Book" : Str), 7)]
  cons := [(("MOST_IN" : Str), ((.int 40) : TT.D)), (("MOST_MOODS" : Str), ((.int 6) : TT.D)), (("MOST_TOLD" : Str), ((.int 200) : TT.D)), (("MOST_STATES" : Str), ((.int 3) : TT.D)), (("MOST_ROW" : Str), ((.int 8) : TT.D)), (("MOST_BACK" : Str), ((.int 5) : TT.D)), (("LETTERS" : Str), ((.str "abcdefghijklmnopqrstuvwxyz") : TT.D)), (("MOST_SIGNS" : Str), ((.int 6) : TT.D))]
  blts := [("abs" : Str), ("all" : Str), ("divmod" : Str), ("enumerate" : Str), ("int" : Str), ("isinstance" : Str), ("len" : Str), ("list" : Str), ("max" : Str), ("min" : Str), ("range" : Str), ("reversed" : Str), ("sorted" : Str), ("tuple" : Str)]
  asked := "_law_asked"
def li : Nat := 87
end G

namespace G
open PySem PySem.Spec PyProof.Rows L2 TS PySem.W PySem.Calls HandSHeadRun
abbrev sA : Stmt := top 89
abbrev sW : Stmt := top 88
def dA : He.DefD := ⟨(("_law_asked" : Str), none), "_law_asked", "_law_asked", defArgs sA, defBody sA, defScope sA, [], []⟩
def dW : He.DefD := ⟨(("_law_which" : Str), none), "_law_which", "_law_which", defArgs sW, defBody sW, defScope sW, [], []⟩
def more : List He.Fa := [.glo sig.asked, .glo "_law_which", .free "isinstance", .free "ValueError"]
def defs : List He.DefD := [dA, dW]
def ex (K : PySem.W.Frag) : Bool := exT ds K && (nwB sig K && excsB sig "HandError" K)
def fa : List He.Fa := .glo "law" :: (sig.facts ++ more)
def fn : List He.DefD := ds.map (·.d) ++ defs
def names0 : List Str := [("_wall" : Str), ("__name__" : Str), ("HandError" : Str), ("NoBook" : Str), ("NoTree" : Str), ("NoPlace" : Str), ("NoReader" : Str), ("Unlike" : Str), ("TooGreat" : Str), ("NoGuesser" : Str), ("NoPattern" : Str), ("NoNumber" : Str), ("NoTurner" : Str), ("NoText" : Str), ("NoLine" : Str), ("NoName" : Str), ("Nothing" : Str), ("MOST_IN" : Str), ("end_of" : Str), ("is_tree" : Str)]
def names1 : List Str := [("check_tree" : Str), ("rows_in" : Str), ("key_of" : Str), ("parts" : Str), ("MOST_MOODS" : Str), ("is_rising" : Str), ("are_tables" : Str), ("Reader" : Str), ("read_by" : Str), ("told_reader" : Str), ("MOST_TOLD" : Str), ("choices" : Str), ("reached" : Str), ("add" : Str), ("offer" : Str), ("offer_by" : Str), ("next_way" : Str), ("firsts" : Str), ("first_of" : Str), ("targets" : Str)]
def names2 : List Str := [("marks_of" : Str), ("kinds_of" : Str), ("spots_of" : Str), ("sum_up" : Str), ("next_mood" : Str), ("made" : Str), ("MOST_STATES" : Str), ("MOST_ROW" : Str), ("is_made_row" : Str), ("Turner" : Str), ("folded" : Str), ("Through" : Str), ("must_be_like" : Str), ("MOST_BACK" : Str), ("Ahead" : Str), ("before" : Str), ("Parts" : Str), ("Back" : Str), ("back" : Str), ("Landing" : Str)]
def names3 : List Str := [("lands" : Str), ("shows_lands" : Str), ("LETTERS" : Str), ("MOST_SIGNS" : Str), ("is_name" : Str), ("check_book" : Str), ("Book" : Str), ("_law_cell" : Str), ("_law_mix" : Str), ("_law_box" : Str), ("_law_take" : Str), ("_law_signs" : Str), ("_law_numbers" : Str), ("_law_made" : Str), ("_law_rows" : Str), ("_law_tables" : Str), ("_law_liked" : Str), ("_law_lead" : Str), ("_law_reader" : Str), ("_law_told" : Str)]
def names4 : List Str := [("_law_other_book" : Str), ("_law_which" : Str), ("_law_asked" : Str), ("_law_refusals" : Str), ("_law_alike_right" : Str), ("_law_right" : Str)]
def names : List Str := names0 ++ names1 ++ names2 ++ names3 ++ names4
abbrev R : PySem.W.OpenRow := PySem.W.OpenLaw.row PySem.Challenge.rw_treehands_k48_refusals_of_landing
abbrev qq : PySem.Program := PySem.W.view R.prog [93]
noncomputable abbrev St (w : World) (os : OsState) := endT R 30000 w os
theorem run1 (w : World) (os : OsState) : (St w os).map (fun s => looksF R.prog (boot_heap w.params) s.abs) = some true := by
  kernel_rfl
theorem run2 (w : World) (os : OsState) : (St w os).map (fun s => seenQ qq names (importedModules R.prog.main.body) (fun s => xlAt qq [] s && recOk R.toRowW.records s) s.abs) = some (openGood qq names) := by
  kernel_rfl
theorem run3 (w : World) (os : OsState) : (St w os).map (fun s => fa.all fun f => f.ok (KM (getT s))) = some true := by
  kernel_rfl
theorem run4 (w : World) (os : OsState) : (St w os).map (fun s => fn.all fun d => d.ok (KM (getT s))) = some true := by
  kernel_rfl
theorem run5 (w : World) (os : OsState) : (St w os).map (fun s => fn.map fun d => He.fnW (KM (getT s)) d.at_) = some (fn.map He.DefD.val) := by
  kernel_rfl
theorem run6 (w : World) (os : OsState) : (St w os).map (fun s => ex (KM (getT s))) = some true := by
  kernel_rfl
theorem run7 (w : World) (os : OsState) : (St w os).map (fun s => He.tabsB (getT s) (tfOf ds) (KM (getT s))) = some true := by
  kernel_rfl
abbrev hk : PySem.W.Hook := hookM fa fn (tfOf ds) ex
abbrev ob : PySem.W.SharedT → He.AlX := obM fa fn (tfOf ds) ex
theorem ob_eq (s : PySem.W.SharedT) : ob s = hk.obs s.abs := obM_eq s
theorem run (w : World) : RunEq R qq hk ob 30000 names w := run_of (run1 w) (run2 w) (run3 w) (run4 w) (run5 w) (run6 w) (run7 w)
end G

set_option maxRecDepth 100000
/-! What stands in the heap for data, values, the store. -/
namespace TS
open PySem PySem.Spec PyProof.Rows L2
abbrev D := TT.D
abbrev W := TT.W
abbrev M := TT.M
abbrev Sto := TT.Sto
abbrev Loc := List (Option Addr)

/-- a list at a that nobody here changes -/
def LstF (K : PySem.W.Frag) (L : Loc) (H : Hp) (a : Addr) (xs : List L2.V) : Prop :=
  (some a ∉ L ∧ Rd H a (.lst xs)) ∨ ∃ (o : Obj) (its : Array Value) (n : Nat), K.lookup a = some o ∧ o.cls = .type "list" ∧ o.dict = none ∧ o.data = .seq its n ∧ its.size ≤ sizeLine ∧ Vals xs its.toList
def TupF (L : Loc) (H : Hp) (a : Addr) (xs : List L2.V) : Prop := some a ∉ L ∧ H a = some (.tup xs)
def kD : Key → D
  | .inl i => .int i
  | .inr x => .str x
def kT (ks : List Key) : D := .tup (ks.map kD)
mutual
/-- a key as the library tells it -/
def nk : D → NestedKey
  | .non => .none
  | .int i => .num i
  | .tup ds => .tup (nks ds)
  | _ => .none
def nks : List D → List NestedKey
  | [] => []
  | d :: ds => nk d :: nks ds
end
abbrev KN : List (D × Addr × L2.V) → List (NestedKey × Addr × Value) → Prop := Paired fun p q => q.1 = nk p.1 ∧ q.2.1 = p.2.1 ∧ RelV p.2.2 q.2.2
/-- what is true of a dict at a whose keys are tuples, tuples within -/
def dnP (w : World) (a : Addr) (kvs : List (D × Addr × L2.V)) (h : Heap) : Prop :=
  ∃ xs, KN kvs xs ∧ ∃ o es ep, h.get? a = some o ∧ o.ExactDict ∧ o.data = .dict es ep ∧ es.toList = xs.map fun x => (⟨x.1.hash w, .ref x.2.1, x.2.2⟩ : DictEntry)
def DN (w : World) (a : Addr) (kvs : List (D × Addr × L2.V)) : HO := .ext (dnP w a kvs)
/-- a dict of the ones above: all that the heap needn't tell -/
structure DnOk (a : Addr) (kvs : List (D × Addr × L2.V)) : Prop where
  nsys : (a == sysModules) = false
  len : kvs.length ≤ sizeLine
  key : ∀ p ∈ kvs, TT.keyN p.1 = true
  nd : (kvs.map (·.1)).Nodup
mutual
inductive RepD (N : Nm) (K : PySem.W.Frag) (L : Loc) (H : Hp) : L2.V → D → Prop
  | non : RepD N K L H .non .non
  | bl (b : Bool) : RepD N K L H (.bl b) (.bl b)
  | int (i : Int) : RepD N K L H (.int i) (.int i)
  | str (x : Str) : RepD N K L H (.str x) (.str x)
  | lst {a : Addr} {xs : List L2.V} {ds : List D} (n : some a ∉ L) (h : H a = some (.lst xs)) (r : RepDs N K L H xs ds) : RepD N K L H (.ref a) (.lst ds)
  | rol {a : Addr} {xs : List L2.V} {ds : List D} (h : LstF K L H a xs) (r : RepDs N K L H xs ds) : RepD N K L H (.ref a) (.rol ds)
  | tup {a : Addr} {xs : List L2.V} {ds : List D} (h : TupF L H a xs) (r : RepDs N K L H xs ds) : RepD N K L H (.ref a) (.tup ds)
  | dK {a : Addr} {kvs : List (Key × L2.V)} {vs : List D} (n : some a ∉ L) (h : Rd H a (.dK kvs)) (r : RepDs N K L H (kvs.map (·.2)) vs) : RepD N K L H (.ref a) (.dct 0 (kvs.map fun p => kD p.1) vs)
  | dT {a : Addr} {kvs : List (List Key × L2.V)} {vs : List D} (n : some a ∉ L) (h : Rd H a (.dT kvs)) (r : RepDs N K L H (kvs.map (·.2)) vs) : RepD N K L H (.ref a) (.dct 1 (kvs.map fun p => kT p.1) vs)
  | d3 {a : Addr} (n : some a ∉ L) (h : Rd H a (.dK [])) : RepD N K L H (.ref a) (.dct 3 [] [])
  | dN {w : World} {a : Addr} {kvs : List (D × Addr × L2.V)} {vs : List D} (n : some a ∉ L) (h : H a = some (DN w a kvs)) (k : DnOk a kvs) (rk : RepDs N K L H (kvs.map fun p => .ref p.2.1) (kvs.map (·.1))) (r : RepDs N K L H (kvs.map (·.2.2)) vs) : RepD N K L H (.ref a) (.dct 2 (kvs.map (·.1)) vs)
  | obj {a dx : Addr} {fs : List (Str × L2.V)} {c : Nat} {ks : List Nat} {vs : List D} (hc : c < N.cs.length) (n : some a ∉ L) (h : H a = some (.ins (N.ca K c) dx fs)) (e : fs.map (·.1) = ks.map N.an) (r : RepDs N K L H (fs.map (·.2)) vs) : RepD N K L H (.ref a) (.obj c ks vs)
inductive RepDs (N : Nm) (K : PySem.W.Frag) (L : Loc) (H : Hp) : List L2.V → List D → Prop
  | nil : RepDs N K L H [] []
  | cons {v : L2.V} {vs : List L2.V} {d : D} {ds : List D} (r : RepD N K L H v d) (t : RepDs N K L H vs ds) : RepDs N K L H (v :: vs) (d :: ds)
end
/-- a thing of the store -/
inductive RepM (N : Nm) (K : PySem.W.Frag) (L : Loc) (H : Hp) (a : Addr) : M → Prop
  | lst {xs : List L2.V} {ds : List D} (h : H a = some (.lst xs)) (r : RepDs N K L H xs ds) : RepM N K L H a (.lst ds)
  | dK {kvs : List (Key × L2.V)} {vs : List D} (h : H a = some (.dK kvs)) (r : RepDs N K L H (kvs.map (·.2)) vs) : RepM N K L H a (.dct 0 (kvs.map fun p => kD p.1) vs)
  | dT {kvs : List (List Key × L2.V)} {vs : List D} (h : H a = some (.dT kvs)) (r : RepDs N K L H (kvs.map (·.2)) vs) : RepM N K L H a (.dct 1 (kvs.map fun p => kT p.1) vs)
  | d3 (h : H a = some (.dK [])) : RepM N K L H a (.dct 3 [] [])
  | dN {w : World} {kvs : List (D × Addr × L2.V)} {vs : List D} (h : H a = some (DN w a kvs)) (k : DnOk a kvs) (rk : RepDs N K L H (kvs.map fun p => .ref p.2.1) (kvs.map (·.1))) (r : RepDs N K L H (kvs.map (·.2.2)) vs) : RepM N K L H a (.dct 2 (kvs.map (·.1)) vs)
  | obj {dx : Addr} {fs : List (Str × L2.V)} {c : Nat} {ks : List Nat} {vs : List D} (hc : c < N.cs.length) (h : H a = some (.ins (N.ca K c) dx fs)) (e : fs.map (·.1) = ks.map N.an) (r : RepDs N K L H (fs.map (·.2)) vs) : RepM N K L H a (.obj c ks vs)
def RepW (N : Nm) (K : PySem.W.Frag) (L : Loc) (H : Hp) (v : L2.V) : W → Prop
  | .d x => RepD N K L H v x
  | .loc l => ∃ a, L[l]? = some (some a) ∧ v = .ref a
inductive RepWs (N : Nm) (K : PySem.W.Frag) (L : Loc) (H : Hp) : List L2.V → List W → Prop
  | nil : RepWs N K L H [] []
  | cons {v : L2.V} {vs : List L2.V} {w : W} {ws : List W} (r : RepW N K L H v w) (t : RepWs N K L H vs ws) : RepWs N K L H (v :: vs) (w :: ws)
/-- what is said of some dict -/
def DictPhi (φ : Heap → Prop) : Prop := ∀ h, φ h → ∃ (a : Addr) (o : Obj) (es : Array DictEntry) (ep : Nat), h.get? a = some o ∧ o.data = .dict es ep
theorem dn_phi (w : World) (a : Addr) (kvs : List (D × Addr × L2.V)) : DictPhi (dnP w a kvs) := fun h ⟨_, _, o, es, ep, h1, _, h2, _⟩ => ⟨a, o, es, ep, h1, h2⟩
theorem code_no_dict {c : Addr} {q : Str} {φ : Heap → Prop} (e : LamX.CodeO c q = .ext φ) (d : DictPhi φ) : False := by
  unfold LamX.CodeO at e
  injection e with e
  have g : ∀ b, ({ objs := Array.replicate (c + 1) { cls := .none, data := .fields #[.none, .str q 0] } } : Heap).get? b = if b < c + 1 then some { cls := .none, data := .fields #[.none, .str q 0] } else none := fun b => by
    unfold Heap.get?
    simp only [Array.getElem?_replicate]
    split <;> split <;> simp_all
  have hx : φ { objs := Array.replicate (c + 1) { cls := .none, data := .fields #[.none, .str q 0] } } := by
    rw [← e]
    refine ⟨{ cls := .none, data := .fields #[.none, .str q 0] }, _, 0, ?_, rfl, rfl⟩
    rw [g, if_pos (Nat.lt_succ_self _)]
  obtain ⟨a, o, es, ep, h1, h2⟩ := d _ hx
  rw [g] at h1
  split at h1
  · cases h1; cases h2
  · cases h1
/-- the store as it stands -/
structure RelS (N : Nm) (K : PySem.W.Frag) (T : List (Addr × Str)) (L : Loc) (H : Hp) (s : Sto) : Prop where
  len : L.length = s.length
  uniq : ∀ (l k : Nat) (a : Addr), L[l]? = some (some a) → L[k]? = some (some a) → l = k
  there : ∀ a, some a ∈ L → ∃ o, H a = some o ∧ (match o with | .lst _ => True | .dK _ => True | .dT _ => True | .ins _ _ _ => True | .ext φ => DictPhi φ | _ => False)
  at_ : ∀ (l : Nat) (m : M), s[l]? = some m → m ≠ .dead → ∃ a, L[l]? = some (some a) ∧ RepM N K L H a m
  tabs : LamX.Tabs T H
structure RelE (N : Nm) (K : PySem.W.Frag) (L : Loc) (H : Hp) (σ : L2.St) (e : TT.Env) : Prop where
  len : e.length = σ.length
  at_ : ∀ (i : Nat) (w : W), e[i]? = some (some w) → ∃ v, σ[i]? = some (some v) ∧ RepW N K L H v w
/-- nothing of the program's stands there -/
def Free (H : Hp) (a : Addr) : Prop := H a = none ∨ ∃ ps, H a = some (.tbl ps)
theorem Free.not {H : Hp} {a : Addr} {o : HO} (f : Free H a) (h : H a = some o) (n : ∀ ps, o ≠ .tbl ps) : False := by
  rcases f with f | ⟨ps, f⟩
  · rw [h] at f; cases f
  · rw [h] at f; cases f; exact n ps rfl
/-- from one state to a later one -/
structure Pst (L L' : Loc) (H H' : Hp) : Prop where
  pre : ∃ X, L' = L ++ X
  new : ∀ a, some a ∈ L' → some a ∈ L ∨ Free H a
  fr : ∀ a o, H a = some o → some a ∉ L → (∀ ps, o ≠ .tbl ps) → H' a = some o
  thr : ∀ a, Free H' a → Free H a
theorem Pst.refl (L : Loc) (H : Hp) : Pst L L H H := ⟨⟨[], by simp⟩, fun _ h => .inl h, fun _ _ h _ _ => h, fun _ h => h⟩
theorem Pst.trans {L L1 L2 : Loc} {H H1 H2 : Hp} (a : Pst L L1 H H1) (b : Pst L1 L2 H1 H2) : Pst L L2 H H2 where
  pre := by
    obtain ⟨X, e⟩ := a.pre
    obtain ⟨Y, f⟩ := b.pre
    exact ⟨X ++ Y, by rw [f, e, List.append_assoc]⟩
  new := fun p h => by
    rcases b.new p h with h | h
    · exact a.new p h
    · exact .inr (a.thr p h)
  fr := fun p o h n q => by
    refine b.fr p o (a.fr p o h n q) (fun z => ?_) q
    rcases a.new p z with z | z
    · exact n z
    · exact z.not h q
  thr := fun p h => a.thr p (b.thr p h)
theorem Free.upd {H : Hp} {a p : Addr} {o : HO} (f : Free (upd H p o) a) (h : Free H p) : Free H a := by
  by_cases e : a = p
  · rw [e]; exact h
  · unfold Free at f; rwa [upd_ne e] at f
section
variable {N : Nm} {K : PySem.W.Frag} {T : List (Addr × Str)} {L L' : Loc} {H H' : Hp} {s : Sto}
/-- what data leans on stays -/
structure Keeps (L L' : Loc) (H H' : Hp) : Prop where
  out : ∀ a o, some a ∉ L → H a = some o → (∀ ps, o ≠ .tbl ps) → some a ∉ L'
  fr : ∀ a o, H a = some o → some a ∉ L → (∀ ps, o ≠ .tbl ps) → H' a = some o
theorem Pst.keeps (p : Pst L L' H H') : Keeps L L' H H' where
  out := fun a o n h nt z => by
    rcases p.new a z with z | z
    · exact n z
    · exact z.not h nt
  fr := p.fr
theorem rd_keeps {a : Addr} {u : HO} (p : Keeps L L' H H') (n : some a ∉ L) (h : Rd H a u) (q : ∀ ps, u ≠ .tbl ps) : some a ∉ L' ∧ Rd H' a u := by
  rcases h with h | ⟨o, h⟩
  · exact ⟨p.out a _ n h q, .inl (p.fr a _ h n q)⟩
  · exact ⟨p.out a _ n h (fun ps z => nomatch z), .inr ⟨o, p.fr a _ h n fun ps z => nomatch z⟩⟩
theorem LstF.keeps {a : Addr} {xs : List L2.V} (p : Keeps L L' H H') (h : LstF K L H a xs) : LstF K L' H' a xs := by
  rcases h with ⟨n, h⟩ | h
  · exact .inl (rd_keeps p n h fun ps z => nomatch z)
  · exact .inr h
theorem TupF.keeps {a : Addr} {xs : List L2.V} (p : Keeps L L' H H') (h : TupF L H a xs) : TupF L' H' a xs :=
  ⟨p.out a _ h.1 h.2 (fun ps z => nomatch z), p.fr a _ h.2 h.1 fun ps z => nomatch z⟩
theorem LstF.seq {a : Addr} {xs : List L2.V} (h : LstF K L H a xs) : SqL K H a xs := by
  rcases h with ⟨_, h⟩ | h
  · exact .inl h
  · exact .inr h
theorem TupF.seq {K : PySem.W.Frag} {a : Addr} {xs : List L2.V} (h : TupF L H a xs) : SqT K H a xs := SqT.of h.2
mutual
theorem RepD.keeps (p : Keeps L L' H H') : ∀ {v : L2.V} {d : D}, RepD N K L H v d → RepD N K L' H' v d
  | _, _, .non => .non
  | _, _, .bl b => .bl b
  | _, _, .int i => .int i
  | _, _, .str x => .str x
  | _, _, .lst n h r => .lst (p.out _ _ n h (fun ps z => nomatch z)) (p.fr _ _ h n fun ps z => nomatch z) (RepDs.keeps p r)
  | _, _, .rol h r => .rol (h.keeps p) (RepDs.keeps p r)
  | _, _, .tup h r => .tup (h.keeps p) (RepDs.keeps p r)
  | _, _, .dK n h r => .dK (rd_keeps p n h fun ps z => nomatch z).1 (rd_keeps p n h fun ps z => nomatch z).2 (RepDs.keeps p r)
  | _, _, .dT n h r => .dT (rd_keeps p n h fun ps z => nomatch z).1 (rd_keeps p n h fun ps z => nomatch z).2 (RepDs.keeps p r)
  | _, _, .d3 n h => .d3 (rd_keeps p n h fun ps z => nomatch z).1 (rd_keeps p n h fun ps z => nomatch z).2
  | _, _, .dN n h k rk r => .dN (p.out _ _ n h (fun ps z => nomatch z)) (p.fr _ _ h n fun ps z => nomatch z) k (RepDs.keeps p rk) (RepDs.keeps p r)
  | _, _, .obj hc n h e r => .obj hc (p.out _ _ n h (fun ps z => nomatch z)) (p.fr _ _ h n fun ps z => nomatch z) e (RepDs.keeps p r)
theorem RepDs.keeps (p : Keeps L L' H H') : ∀ {vs : List L2.V} {ds : List D}, RepDs N K L H vs ds → RepDs N K L' H' vs ds
  | _, _, .nil => .nil
  | _, _, .cons r t => .cons (RepD.keeps p r) (RepDs.keeps p t)
end
theorem RepW.keeps {v : L2.V} {w : W} (p : Keeps L L' H H') (e : ∃ X, L' = L ++ X) (r : RepW N K L H v w) : RepW N K L' H' v w := by
  cases w with
  | d x => exact RepD.keeps p r
  | loc l =>
    obtain ⟨a, h, rfl⟩ := r
    obtain ⟨X, rfl⟩ := e
    refine ⟨a, ?_, rfl⟩
    rw [List.getElem?_append_left (List.getElem?_eq_some_iff.mp h).1]
    exact h
theorem RepW.pst {v : L2.V} {w : W} (p : Pst L L' H H') (r : RepW N K L H v w) : RepW N K L' H' v w := r.keeps p.keeps p.pre
theorem RepWs.pst (p : Pst L L' H H') : ∀ {vs : List L2.V} {ws : List W}, RepWs N K L H vs ws → RepWs N K L' H' vs ws
  | _, _, .nil => .nil
  | _, _, .cons r t => .cons (r.pst p) (RepWs.pst p t)
theorem RelE.pst {σ : L2.St} {e : TT.Env} (p : Pst L L' H H') (r : RelE N K L H σ e) : RelE N K L' H' σ e :=
  ⟨r.len, fun i w h => let ⟨v, a, b⟩ := r.at_ i w h; ⟨v, a, b.pst p⟩⟩
theorem RepDs.len : ∀ {vs : List L2.V} {ds : List D}, RepDs N K L H vs ds → vs.length = ds.length
  | _, _, .nil => rfl
  | _, _, .cons _ t => by simp [RepDs.len t]
theorem RepWs.len : ∀ {vs : List L2.V} {ws : List W}, RepWs N K L H vs ws → vs.length = ws.length
  | _, _, .nil => rfl
  | _, _, .cons _ t => by simp [RepWs.len t]
theorem RepDs.get : ∀ {vs : List L2.V} {ds : List D} {i : Nat} {d : D}, RepDs N K L H vs ds → ds[i]? = some d → ∃ v, vs[i]? = some v ∧ RepD N K L H v d
  | _, _, _, _, .nil, e => by simp at e
  | _, _, 0, _, .cons r _, e => by simp at e; subst e; exact ⟨_, rfl, r⟩
  | _, _, i + 1, _, .cons _ t, e => by
    obtain ⟨v, h1, h2⟩ := RepDs.get (i := i) t (by simpa using e)
    exact ⟨v, by simpa using h1, h2⟩
theorem RepDs.get' {vs : List L2.V} {ds : List D} {i : Nat} {v : L2.V} (r : RepDs N K L H vs ds) (e : vs[i]? = some v) : ∃ d, ds[i]? = some d ∧ RepD N K L H v d := by
  have h : i < ds.length := by rw [← r.len]; exact (List.getElem?_eq_some_iff.mp e).1
  obtain ⟨u, h1, h2⟩ := r.get (List.getElem?_eq_getElem h)
  rw [e] at h1; cases h1
  exact ⟨_, List.getElem?_eq_getElem h, h2⟩
theorem RepDs.app : ∀ {vs us : List L2.V} {ds es : List D}, RepDs N K L H vs ds → RepDs N K L H us es → RepDs N K L H (vs ++ us) (ds ++ es)
  | _, _, _, _, .nil, s => s
  | _, _, _, _, .cons r t, s => .cons r (RepDs.app t s)
theorem RepDs.take : ∀ {vs : List L2.V} {ds : List D} (n : Nat), RepDs N K L H vs ds → RepDs N K L H (vs.take n) (ds.take n)
  | _, _, 0, _ => by simpa using RepDs.nil
  | _, _, _ + 1, .nil => by simpa using RepDs.nil
  | _, _, n + 1, .cons r t => by simpa using RepDs.cons r (RepDs.take n t)
theorem RepDs.drop : ∀ {vs : List L2.V} {ds : List D} (n : Nat), RepDs N K L H vs ds → RepDs N K L H (vs.drop n) (ds.drop n)
  | _, _, 0, r => by simpa using r
  | _, _, _ + 1, .nil => by simpa using RepDs.nil
  | _, _, n + 1, .cons r t => by simpa using RepDs.drop n t
theorem RepDs.set : ∀ {vs : List L2.V} {ds : List D} {v : L2.V} {d : D} (i : Nat), RepDs N K L H vs ds → RepD N K L H v d → RepDs N K L H (vs.set i v) (ds.set i d)
  | _, _, _, _, _, .nil, _ => by simpa using RepDs.nil
  | _, _, _, _, 0, .cons r t, q => .cons q t
  | _, _, _, _, i + 1, .cons r t, q => .cons r (RepDs.set i t q)
theorem RepDs.rev : ∀ {vs : List L2.V} {ds : List D}, RepDs N K L H vs ds → RepDs N K L H vs.reverse ds.reverse
  | _, _, .nil => by simpa using RepDs.nil
  | _, _, .cons r t => by simpa using RepDs.app (RepDs.rev t) (.cons r .nil)
theorem RepDs.dropLast {vs : List L2.V} {ds : List D} (r : RepDs N K L H vs ds) : RepDs N K L H vs.dropLast ds.dropLast := by
  rw [List.dropLast_eq_take, List.dropLast_eq_take, r.len]
  exact r.take _
theorem RepDs.flat {vs : List L2.V} {ds : List D} (r : RepDs N K L H vs ds) : ∀ n : Nat, RepDs N K L H (List.replicate n vs).flatten (List.replicate n ds).flatten
  | 0 => by simpa using RepDs.nil
  | n + 1 => by
    rw [List.replicate_succ, List.replicate_succ, List.flatten_cons, List.flatten_cons]
    exact r.app (RepDs.flat r n)

/-! ### how a piece of code may end -/
def Out {α : Type} (N : Nm) (K : PySem.W.Frag) (T : List (Addr × Str)) (L : Loc) (H : Hp) (ok : α → Loc → Hp → Sto → Prop) (er : Nat → Hp → Prop) : TT.R α → Prop
  | .ok a s => ∀ L' H', Pst L L' H H' → RelS N K T L' H' s → ok a L' H' s
  | .err c s => ∀ L' H', Pst L L' H H' → RelS N K T L' H' s → er c H'
  | .no => False
variable {α β : Type} {ok ok' : α → Loc → Hp → Sto → Prop} {er er' : Nat → Hp → Prop} {r : TT.R α}
theorem Out.step (p : Pst L L' H H') (h : Out N K T L H ok er r) : Out N K T L' H' ok er r := by
  cases r with
  | ok a s => exact fun L2 H2 q z => h L2 H2 (p.trans q) z
  | err c s => exact fun L2 H2 q z => h L2 H2 (p.trans q) z
  | no => exact h
theorem Out.mono (h : Out N K T L H ok er r) (a : ∀ x L' H' s, Pst L L' H H' → RelS N K T L' H' s → ok x L' H' s → ok' x L' H' s) (b : ∀ c H', er c H' → er' c H') : Out N K T L H ok' er' r := by
  cases r with
  | ok x s => exact fun L2 H2 q z => a _ _ _ _ q z (h L2 H2 q z)
  | err c s => exact fun L2 H2 q z => b _ _ (h L2 H2 q z)
  | no => exact h
theorem Out.bind {f : α → Sto → TT.R β} {okb : β → Loc → Hp → Sto → Prop} (h : Out N K T L H okb er (r.bind f)) : Out N K T L H (fun a L' H' s => Out N K T L' H' okb er (f a s)) er r := by
  cases r with
  | ok a s => exact fun L2 H2 q z => Out.step (r := f a s) q h
  | err c s => exact h
  | no => exact h
theorem Out.here {a : α} {s : Sto} (h : Out N K T L H ok er (.ok a s)) (z : RelS N K T L H s) : ok a L H s := h L H (Pst.refl L H) z
/-! ### writes -/
/-- a new thing that nobody here changes -/
theorem Pst.new_ {p : Addr} {o : HO} (hp : H p = none) : Pst L L H (upd H p o) where
  pre := ⟨[], by simp⟩
  new := fun _ h => .inl h
  fr := fun a u h _ _ => by rw [upd_ne (ne_of_none h hp)]; exact h
  thr := fun a h => h.upd (.inl hp)
theorem Pst.grow {p : Addr} {o : HO} (hp : H p = none) : Pst L (L ++ [some p]) H (upd H p o) where
  pre := ⟨[some p], rfl⟩
  new := fun a h => by
    rcases List.mem_append.mp h with h | h
    · exact .inl h
    · rw [List.mem_singleton] at h; cases h; exact .inr (.inl hp)
  fr := fun a u h _ _ => by rw [upd_ne (ne_of_none h hp)]; exact h
  thr := fun a h => h.upd (.inl hp)
/-- a thing of the store is written -/
theorem Pst.write {p : Addr} {o : HO} (hp : some p ∈ L) (ho : ∀ ps, o ≠ .tbl ps := by intro _ h; cases h) : Pst L L H (upd H p o) where
  pre := ⟨[], by simp⟩
  new := fun _ h => .inl h
  fr := fun a u h n _ => by
    have e : a ≠ p := fun e => n (by rw [e]; exact hp)
    rw [upd_ne e]; exact h
  thr := fun a h => by
    by_cases e : a = p
    · rcases h with h | ⟨ps, h⟩
      · rw [e, upd_same] at h; cases h
      · rw [e, upd_same] at h; cases h; exact absurd rfl (ho ps)
    · unfold Free at h; rwa [upd_ne e] at h
def isMut : HO → Prop
  | .lst _ => True
  | .dK _ => True
  | .dT _ => True
  | .ins _ _ _ => True
  | .ext φ => DictPhi φ
  | _ => False
theorem tabs_upd {p : Addr} {o : HO} (t : LamX.Tabs T H) (h : ∀ u, H p = some u → (match u with | .lst _ => True | .dK _ => True | .dT _ => True | .ins _ _ _ => True | .ext φ => DictPhi φ | _ => False)) : LamX.Tabs T (upd H p o) := by
  intro q hq
  obtain ⟨ps, e, tr, c⟩ := t q hq
  have ne : q.1 ≠ p := fun z => by
    have := h _ (z ▸ e)
    exact this
  refine ⟨ps, by rw [upd_ne ne]; exact e, tr, fun pos cv hc => ?_⟩
  obtain ⟨c', rfl, e'⟩ := c pos cv hc
  have ne' : c' ≠ p := fun z => by
    have := h _ (z ▸ e')
    exact code_no_dict rfl this
  exact ⟨c', rfl, by rw [upd_ne ne']; exact e'⟩
theorem tabs_new {p : Addr} {o : HO} (t : LamX.Tabs T H) (h : H p = none) : LamX.Tabs T (upd H p o) := tabs_upd t fun u e => by rw [h] at e; cases e
theorem RepM.keeps {a : Addr} {m : M} (p : Keeps L L' H H') (h : H' a = H a) (r : RepM N K L H a m) : RepM N K L' H' a m := by
  cases r with
  | lst e r => exact .lst (h.trans e) (r.keeps p)
  | dK e r => exact .dK (h.trans e) (r.keeps p)
  | dT e r => exact .dT (h.trans e) (r.keeps p)
  | d3 e => exact .d3 (h.trans e)
  | dN e k rk r => exact .dN (h.trans e) k (rk.keeps p) (r.keeps p)
  | obj hc e f r => exact .obj hc (h.trans e) f (r.keeps p)
/-- the store stands as it was where something new was laid -/
theorem RelS.new_ {p : Addr} {o : HO} (z : RelS N K T L H s) (hp : H p = none) : RelS N K T L (upd H p o) s := by
  have ne : ∀ a, some a ∈ L → a ≠ p := fun a h e => by
    obtain ⟨u, q, _⟩ := z.there a h
    rw [e, hp] at q; cases q
  refine ⟨z.len, z.uniq, fun a h => ?_, fun l m h d => ?_, tabs_new z.tabs hp⟩
  · rw [upd_ne (ne a h)]; exact z.there a h
  · obtain ⟨a, e, r⟩ := z.at_ l m h d
    exact ⟨a, e, r.keeps (Pst.new_ hp).keeps (upd_ne (ne a (List.mem_of_getElem? e)))⟩
/-- .. and where that is the store's own now -/
theorem RelS.grow {p : Addr} {o : HO} {m : M} (z : RelS N K T L H s) (hp : H p = none) (ho : isMut o) (r : RepM N K (L ++ [some p]) (upd H p o) p m) : RelS N K T (L ++ [some p]) (upd H p o) (s ++ [m]) := by
  have ne : ∀ a, some a ∈ L → a ≠ p := fun a h e => by
    obtain ⟨u, q, _⟩ := z.there a h
    rw [e, hp] at q; cases q
  have k := (Pst.grow (L := L) (o := o) hp).keeps
  refine ⟨by simp [z.len], fun l k a h1 h2 => ?_, fun a h => ?_, fun l m' h d => ?_, tabs_new z.tabs hp⟩
  · rw [List.getElem?_append] at h1 h2
    split at h1 <;> split at h2
    · exact z.uniq l k a h1 h2
    · rename_i x y
      have e2 : some a = some p := by
        have := List.mem_of_getElem? h2
        simpa using this
      cases e2
      exact absurd rfl (ne p (List.mem_of_getElem? h1))
    · rename_i x y
      have e2 : some a = some p := by
        have := List.mem_of_getElem? h1
        simpa using this
      cases e2
      exact absurd rfl (ne p (List.mem_of_getElem? h2))
    · have h3 := (List.getElem?_eq_some_iff.mp h1).1
      have h4 := (List.getElem?_eq_some_iff.mp h2).1
      simp at h3 h4
      omega
  · rcases List.mem_append.mp h with h | h
    · rw [upd_ne (ne a h)]; exact z.there a h
    · rw [List.mem_singleton] at h; cases h
      refine ⟨o, upd_same, ?_⟩
      cases o <;> first | trivial | exact ho
  · rw [List.getElem?_append] at h
    split at h
    · rename_i hl
      obtain ⟨a, e, r'⟩ := z.at_ l m' h d
      refine ⟨a, ?_, r'.keeps k (upd_ne (ne a (List.mem_of_getElem? e)))⟩
      rw [List.getElem?_append_left (List.getElem?_eq_some_iff.mp e).1]
      exact e
    · rename_i hl
      have h3 := (List.getElem?_eq_some_iff.mp h).1
      simp at h3
      have e : l = s.length := by omega
      subst e
      simp at h
      subst h
      exact ⟨p, by rw [← z.len]; simp, r⟩
/-- a thing of the store is written -/
theorem RelS.write {p : Addr} {l : Nat} {o : HO} {m : M} (z : RelS N K T L H s) (hl : L[l]? = some (some p)) (ho : isMut o) (r : RepM N K L (upd H p o) p m) : RelS N K T L (upd H p o) (s.set l m) := by
  have hp : some p ∈ L := List.mem_of_getElem? hl
  have k := (Pst.write (H := H) (o := o) hp (fun ps e => by subst e; exact ho)).keeps
  refine ⟨by simp [z.len], z.uniq, fun a h => ?_, fun j m' h d => ?_, tabs_upd z.tabs fun u e => ?_⟩
  · by_cases e : a = p
    · rw [e]
      refine ⟨o, upd_same, ?_⟩
      cases o <;> first | trivial | exact ho
    · rw [upd_ne e]; exact z.there a h
  · rw [List.getElem?_set] at h
    split at h
    · rename_i e
      subst e
      split at h
      · cases h; exact ⟨p, hl, r⟩
      · cases h
    · rename_i e
      obtain ⟨a, e', r'⟩ := z.at_ j m' h d
      have ne : a ≠ p := fun q => e (z.uniq l j p hl (q ▸ e'))
      exact ⟨a, e', r'.keeps k (upd_ne ne)⟩
  · obtain ⟨u', e', q⟩ := z.there p hp
    rw [e] at e'; cases e'; exact q
theorem RelS.loc {l : Nat} {m : M} (z : RelS N K T L H s) (h : s[l]? = some m) (d : m ≠ .dead) : ∃ a, L[l]? = some (some a) ∧ some a ∈ L ∧ RepM N K L H a m := by
  obtain ⟨a, e, r⟩ := z.at_ l m h d
  exact ⟨a, e, List.mem_of_getElem? e, r⟩
theorem fresh_notin {p : Addr} (z : RelS N K T L H s) (hp : H p = none) : some p ∉ L := fun h => by
  obtain ⟨u, q, _⟩ := z.there p h
  rw [hp] at q; cases q
end
end TS

set_option maxRecDepth 100000
/-! Operators and built-ins, by values. -/
namespace TS
open PySem PySem.Spec PyProof.Rows L2
section
variable {N : Nm} {K : PySem.W.Frag} {T : List (Addr × Str)} {L L' : Loc} {H H' : Hp} {s : Sto}
abbrev okW (N : Nm) (K : PySem.W.Frag) (Q : VK) : W → Loc → Hp → Sto → Prop := fun w L' H' _ => ∀ v, RepW N K L' H' v w → Q v H'
theorem lstM_rep {v : L2.V} {w : W} {ds : List D} (z : RelS N K T L H s) (r : RepW N K L H v w) (h : TT.lstM s w = some ds) : ∃ a xs, v = .ref a ∧ H a = some (.lst xs) ∧ RepDs N K L H xs ds := by
  cases w with
  | d x =>
    cases x <;> simp [TT.lstM] at h
    subst h
    cases r with
    | lst n e r => exact ⟨_, _, rfl, e, r⟩
  | loc l =>
    obtain ⟨a, e, rfl⟩ := r
    simp only [TT.lstM] at h
    split at h
    · rename_i ds' e'
      cases h
      obtain ⟨b, f, _, m⟩ := z.loc e' (fun q => nomatch q)
      rw [e] at f; cases f
      cases m with
      | lst e r => exact ⟨_, _, rfl, e, r⟩
    · cases h
theorem lstOf_rep {v : L2.V} {w : W} {ds : List D} (z : RelS N K T L H s) (r : RepW N K L H v w) (h : TT.lstOf s w = some ds) : ∃ a xs, v = .ref a ∧ SqL K H a xs ∧ RepDs N K L H xs ds := by
  cases w with
  | d x =>
    cases x <;> simp [TT.lstOf] at h
    · subst h
      cases r with
      | lst n e r => exact ⟨_, _, rfl, SqL.of e, r⟩
    · subst h
      cases r with
      | rol e r => exact ⟨_, _, rfl, e.seq, r⟩
  | loc l =>
    obtain ⟨a, xs, e, f, r'⟩ := lstM_rep (w := .loc l) z r (by simpa [TT.lstOf, TT.lstM] using h)
    exact ⟨a, xs, e, SqL.of f, r'⟩
theorem seqOf_rep {v : L2.V} {w : W} {ds : List D} (z : RelS N K T L H s) (r : RepW N K L H v w) (h : TT.seqOf s w = some ds) : ∃ a xs, v = .ref a ∧ (SqL K H a xs ∨ SqT K H a xs) ∧ RepDs N K L H xs ds := by
  cases w with
  | d x =>
    cases x <;> simp [TT.seqOf] at h
    · subst h
      cases r with
      | tup e r => exact ⟨_, _, rfl, .inr e.seq, r⟩
    · subst h
      cases r with
      | lst n e r => exact ⟨_, _, rfl, .inl (SqL.of e), r⟩
    · subst h
      cases r with
      | rol e r => exact ⟨_, _, rfl, .inl e.seq, r⟩
  | loc l =>
    obtain ⟨a, xs, e, f, r'⟩ := lstM_rep (w := .loc l) z r (by simpa [TT.seqOf, TT.lstM] using h)
    exact ⟨a, xs, e, .inl (SqL.of f), r'⟩
theorem RepD.int_inv {v : L2.V} {i : Int} (r : RepD N K L H v (.int i)) : v = .int i := by cases r; rfl
theorem RepD.bl_inv {v : L2.V} {i : Bool} (r : RepD N K L H v (.bl i)) : v = .bl i := by cases r; rfl
theorem RepD.str_inv {v : L2.V} {i : Str} (r : RepD N K L H v (.str i)) : v = .str i := by cases r; rfl
theorem RepD.non_inv {v : L2.V} (r : RepD N K L H v .non) : v = .non := by cases r; rfl
theorem RepD.tup_inv {v : L2.V} {ds : List D} (r : RepD N K L H v (.tup ds)) : ∃ a xs, v = .ref a ∧ TupF L H a xs ∧ RepDs N K L H xs ds := by
  cases r with
  | tup e r => exact ⟨_, _, rfl, e, r⟩
/-- a value comes back -/
theorem fin_w {Q : VK} {er : Nat → Hp → Prop} {fz : Bool} {v : L2.V} {w : W} (z : RelS N K T L H s) (h : Out N K T L H (okW N K Q) er ((TT.R.ok (.w w) s).bind (TT.fin fz))) (r : RepW N K L H v w) : Q v H :=
  Out.here (a := w) h z v r
theorem fin_d {Q : VK} {er : Nat → Hp → Prop} {fz : Bool} {v : L2.V} {d : D} (z : RelS N K T L H s) (h : Out N K T L H (okW N K Q) er ((TT.d1 d s).bind (TT.fin fz))) (r : RepD N K L H v d) : Q v H :=
  fin_w z h (w := .d d) r
theorem fin_int {Q : VK} {er : Nat → Hp → Prop} {fz : Bool} {i : Int} (z : RelS N K T L H s) (h : Out N K T L H (okW N K Q) er ((TT.int1 i s).bind (TT.fin fz))) : Q (.int i) H :=
  fin_w z h (w := .d (.int i)) (.int i)
theorem fin_bl {Q : VK} {er : Nat → Hp → Prop} {fz : Bool} {i : Bool} (z : RelS N K T L H s) (h : Out N K T L H (okW N K Q) er ((TT.bl1 i s).bind (TT.fin fz))) : Q (.bl i) H :=
  fin_w z h (w := .d (.bl i)) (.bl i)
/-- a new list comes back -/
theorem fin_fl' {Q : VK} {er : Nat → Hp → Prop} {fz : Bool} {ds : List D} {xs : List L2.V} {p : Addr} (z : RelS N K T L H s) (h : Out N K T L H (okW N K Q) er (TT.fin fz (.fl ds) s)) (r : RepDs N K L H xs ds) (hp : H p = none) :
    Q (.ref p) (upd H p (.lst xs)) := by
  cases fz with
  | true =>
    have h' : Out N K T L H (okW N K Q) er (.ok (.d (.lst ds)) s) := h
    exact h' L _ (Pst.new_ hp) (z.new_ hp) _ (RepD.lst (fresh_notin z hp) upd_same (r.keeps (Pst.new_ hp).keeps))
  | false =>
    have h' : Out N K T L H (okW N K Q) er (.ok (.loc s.length) (s ++ [.lst ds])) := h
    refine h' (L ++ [some p]) _ (Pst.grow hp) (z.grow hp (show isMut (.lst xs) from trivial) (.lst upd_same (r.keeps (Pst.grow hp).keeps))) _ ⟨p, ?_, rfl⟩
    rw [← z.len]; simp
theorem fin_fl {Q : VK} {er : Nat → Hp → Prop} {fz : Bool} {ds : List D} {xs : List L2.V} {p : Addr} (z : RelS N K T L H s) (h : Out N K T L H (okW N K Q) er ((TT.R.ok (.fl ds) s).bind (TT.fin fz))) (r : RepDs N K L H xs ds) (hp : H p = none) :
    Q (.ref p) (upd H p (.lst xs)) := fin_fl' z h r hp
/-- a new tuple comes back -/
theorem fin_tup {Q : VK} {er : Nat → Hp → Prop} {fz : Bool} {ds : List D} {xs : List L2.V} {p : Addr} (z : RelS N K T L H s) (h : Out N K T L H (okW N K Q) er ((TT.d1 (.tup ds) s).bind (TT.fin fz))) (r : RepDs N K L H xs ds) (hp : H p = none) :
    Q (.ref p) (upd H p (.tup xs)) := by
  have h' : Out N K T L H (okW N K Q) er (.ok (.d (.tup ds)) s) := h
  exact h' L _ (Pst.new_ hp) (z.new_ hp) _ (RepD.tup ⟨fresh_notin z hp, upd_same⟩ (r.keeps (Pst.new_ hp).keeps))
theorem no_out {Q : VK} {er : Nat → Hp → Prop} {fz : Bool} {P : Prop} (h : Out N K T L H (okW N K Q) er ((TT.R.no : TT.R TT.Vl).bind (TT.fin fz))) : P := False.elim h
theorem small_le {n : Nat} (h : TT.small n = true) : n ≤ 10000 := of_decide_eq_true h
end
/-- a two-place operation and what it is here -/
def Snd2 (N : Nm) (X : Cx) (T : List (Addr × Str)) (f : Value → Value → Sem Value) (g : W → W → Sto → TT.R TT.Vl) : Prop :=
  ∃ r : R2, OpR X f r ∧ ∀ (fz : Bool) (L : Loc) (H : Hp) (s : Sto) (x y : L2.V) (wx wy : W) (Q : VK) (er : Nat → Hp → Prop), RelS N X.K T L H s → RepW N X.K L H x wx → RepW N X.K L H y wy →
    Out N X.K T L H (okW N X.K Q) er ((g wx wy s).bind (TT.fin fz)) → r x y H Q
section
variable {N : Nm} {X : Cx} {T : List (Addr × Str)}
theorem snd_int2 {f : Value → Value → Sem Value} {g : Int → Int → Option D} {C : Int → Int → Prop} {gV : Int → Int → L2.V} (h : OpR X f (rI C gV))
    (hg : ∀ i j d, g i j = some d → C i j ∧ ∀ L H, RepD N X.K L H (gV i j) d) : Snd2 N X T f (TT.int2 g) := by
  refine ⟨_, h, fun fz L H s x y wx wy Q er z rx ry o => ?_⟩
  unfold TT.int2 at o
  split at o
  · rename_i i j
    cases e : g i j with
    | none => rw [e] at o; exact no_out o
    | some d =>
      rw [e] at o
      obtain ⟨hc, hr⟩ := hg i j d e
      exact ⟨i, j, RepD.int_inv rx, RepD.int_inv ry, hc, fin_d z o (hr L H)⟩
  · exact no_out o
theorem rI_of {f : Value → Value → Sem Value} {g : Int → Int → L2.V} (h : OpR X f (rI0 g)) : OpR X f (rI (fun _ _ => True) g) := fun pins s σ H x y v u Q I rx ry q => by
  obtain ⟨i, j, e1, e2, _, q⟩ := q
  exact h pins s σ H x y v u Q I rx ry ⟨i, j, e1, e2, q⟩
theorem snd_sub : Snd2 N X T (binaryOp .Sub) (fun x y s => TT.opSem .sub [x, y] s) :=
  snd_int2 (rI_of op_sub) fun i j d e => by cases e; exact ⟨trivial, fun L H => .int _⟩
theorem snd_fdiv : Snd2 N X T (binaryOp .FloorDiv) (fun x y s => TT.opSem .fdiv [x, y] s) :=
  snd_int2 op_fdiv fun i j d e => by
    split at e
    · rename_i h
      cases e; exact ⟨h, fun L H => .int _⟩
    · cases e
theorem snd_mod : Snd2 N X T (binaryOp .Mod) (fun x y s => TT.opSem .mod [x, y] s) :=
  snd_int2 op_mod fun i j d e => by
    split at e
    · rename_i h
      cases e; exact ⟨h, fun L H => .int _⟩
    · cases e
theorem big_ok {i : Int} (h : TT.big i = true) : i.natAbs < 2 ^ 64 := of_decide_eq_true h
theorem snd_pow : Snd2 N X T (binaryOp .Pow) (fun x y s => TT.opSem .pow [x, y] s) :=
  snd_int2 op_pow fun i j d e => by
    split at e
    · rename_i h
      cases e
      exact ⟨⟨h.1, by omega, big_ok h.2.2⟩, fun L H => .int _⟩
    · cases e
theorem snd_le : Snd2 N X T (compareOp .LtE) (fun x y s => TT.opSem .le [x, y] s) :=
  snd_int2 (rI_of op_le) fun i j d e => by cases e; exact ⟨trivial, fun L H => .bl _⟩
theorem snd_gt : Snd2 N X T (compareOp .Gt) (fun x y s => TT.opSem .gt [x, y] s) :=
  snd_int2 (rI_of op_gt) fun i j d e => by cases e; exact ⟨trivial, fun L H => .bl _⟩
theorem snd_ge : Snd2 N X T (compareOp .GtE) (fun x y s => TT.opSem .ge [x, y] s) :=
  snd_int2 (rI_of op_ge) fun i j d e => by cases e; exact ⟨trivial, fun L H => .bl _⟩
theorem snd_add : Snd2 N X T (binaryOp .Add) (fun x y s => TT.opSem .add [x, y] s) := by
  refine ⟨_, (op_add.or op_add_str).or (op_catA.or op_cat), fun fz L H s x y wx wy Q er z rx ry o => ?_⟩
  simp only [TT.opSem] at o
  unfold TT.addS at o
  split at o
  · exact .inl (.inl ⟨_, _, RepD.int_inv rx, RepD.int_inv ry, fin_int z o⟩)
  · split at o
    · rename_i h
      rw [Bool.and_eq_true] at h
      have h1 := small_le h.1
      have h2 := small_le h.2
      exact .inl (.inr ⟨_, _, RepD.str_inv rx, RepD.str_inv ry, by rw [sizeLine_eq]; omega, fin_d z o (.str _)⟩)
    · exact no_out o
  · split at o
    · rename_i h
      rw [Bool.and_eq_true] at h
      have h1 := small_le h.1
      have h2 := small_le h.2
      obtain ⟨a, xs, rfl, ha, ra⟩ := RepD.tup_inv rx
      obtain ⟨b, ys, rfl, hb, rb⟩ := RepD.tup_inv ry
      have l1 := ra.len
      have l2 := rb.len
      refine .inr (.inl ⟨a, b, xs, ys, rfl, rfl, ha.seq, hb.seq, by rw [sizeLine_eq]; omega, fun e => ?_, fun _ e => ?_, fun _ _ p hp => fin_tup z o (ra.app rb) hp⟩)
      · subst e
        cases ra
        exact fin_d z o ry
      · subst e
        cases rb
        rw [List.append_nil] at o
        exact fin_d z o rx
    · exact no_out o
  · split at o
    · rename_i e1 e2
      split at o
      · rename_i h
        rw [Bool.and_eq_true] at h
        have h1 := small_le h.1
        have h2 := small_le h.2
        obtain ⟨a, xs, rfl, ha, ra⟩ := lstM_rep z rx e1
        obtain ⟨b, ys, rfl, hb, rb⟩ := lstM_rep z ry e2
        have l1 := ra.len
        have l2 := rb.len
        exact .inr (.inr ⟨a, b, xs, ys, rfl, rfl, ha, hb, by rw [sizeLine_eq]; omega, fun p hp => fin_fl z o (ra.app rb) hp⟩)
      · exact no_out o
    · exact no_out o
theorem snd_mul : Snd2 N X T (binaryOp .Mult) (fun x y s => TT.opSem .mul [x, y] s) := by
  refine ⟨_, op_mul.or (op_repT.or op_rep), fun fz L H s x y wx wy Q er z rx ry o => ?_⟩
  simp only [TT.opSem] at o
  unfold TT.mulS at o
  split at o
  · split at o
    · rename_i i j h
      rw [Bool.or_eq_true] at h
      refine .inl ⟨_, _, RepD.int_inv rx, RepD.int_inv ry, ?_, fin_int z o⟩
      rcases h with h | h
      · have := big_ok h
        exact .inl (by omega)
      · have := big_ok h
        exact .inr (by omega)
    · exact no_out o
  · split at o
    · rename_i h
      obtain ⟨a, xs, rfl, ha, ra⟩ := RepD.tup_inv rx
      have l1 := ra.len
      refine .inr (.inl ⟨a, _, xs, rfl, RepD.int_inv ry, ha.seq, fun e => ?_, h.2.2.1, h.2.2.2, by omega, fun p hp => fin_tup z o (ra.flat _) hp⟩)
      subst e
      cases ra
      exact h.1 rfl
    · exact no_out o
  · split at o
    · rename_i e1
      split at o
      · rename_i h
        rw [Bool.and_eq_true, Bool.and_eq_true] at h
        have h1 := small_le h.1.1
        have h2 := of_decide_eq_true h.1.2
        have h3 := of_decide_eq_true h.2
        obtain ⟨a, xs, rfl, ha, ra⟩ := lstM_rep z rx e1
        have l1 := ra.len
        refine .inr (.inr ⟨a, _, xs, rfl, RepD.int_inv ry, ha, by omega, by omega, ?_, fun p hp => fin_fl z o (ra.flat _) hp⟩)
        rw [sizeLine_eq]
        refine Nat.le_trans (Nat.mul_le_mul (l1 ▸ h1) (show _ ≤ 1000 by omega)) (by decide)
      · exact no_out o
    · exact no_out o
  · exact no_out o
theorem snd_isN : Snd2 N X T (compareOp .Is) (fun x y s => TT.opSem .isN [x, y] s) := by
  refine ⟨_, op_isN, fun fz L H s x y wx wy Q er z rx ry o => ?_⟩
  simp only [TT.opSem] at o
  unfold TT.isNS at o
  split at o
  · refine ⟨RepD.non_inv ry, ?_⟩
    have e : decide (x = .non) = decide (wx = .d .non) := by
      cases wx with
      | d d =>
        cases d with
        | non => rw [RepD.non_inv rx]; simp
        | _ => cases rx <;> simp
      | loc l =>
        obtain ⟨a, _, rfl⟩ := rx
        simp
    rw [e]
    exact fin_bl z o
  · exact no_out o
theorem snd_notN : Snd2 N X T (compareOp .IsNot) (fun x y s => TT.opSem .notN [x, y] s) := by
  refine ⟨_, op_notN, fun fz L H s x y wx wy Q er z rx ry o => ?_⟩
  simp only [TT.opSem] at o
  unfold TT.isNS at o
  split at o
  · refine ⟨RepD.non_inv ry, ?_⟩
    have e : decide (x = .non) = decide (wx = .d .non) := by
      cases wx with
      | d d =>
        cases d with
        | non => rw [RepD.non_inv rx]; simp
        | _ => cases rx <;> simp
      | loc l =>
        obtain ⟨a, _, rfl⟩ := rx
        simp
    rw [e]
    exact fin_bl z o
  · exact no_out o
theorem snd_isB : Snd2 N X T (compareOp .Is) (fun x y s => TT.opSem .isB [x, y] s) := by
  refine ⟨_, op_isBl, fun fz L H s x y wx wy Q er z rx ry o => ?_⟩
  simp only [TT.opSem] at o
  unfold TT.isBS at o
  split at o
  · exact ⟨_, _, RepD.bl_inv rx, RepD.bl_inv ry, fin_bl z o⟩
  · exact no_out o
theorem snd_notB : Snd2 N X T (compareOp .IsNot) (fun x y s => TT.opSem .notB [x, y] s) := by
  refine ⟨_, op_notBl, fun fz L H s x y wx wy Q er z rx ry o => ?_⟩
  simp only [TT.opSem] at o
  unfold TT.isBS at o
  split at o
  · exact ⟨_, _, RepD.bl_inv rx, RepD.bl_inv ry, fin_bl z o⟩
  · exact no_out o
end
end TS

set_option maxRecDepth 100000
/-! Data held against data; membership; items; built-ins of one thing. -/
namespace TS
open PySem PySem.Spec PyProof.Rows L2
mutual
def py : D → PyData
  | .non => .none
  | .bl b => .bool b
  | .int i => .int i
  | .str x => .str x
  | .tup ds => .tuple (pys ds)
  | .lst ds => .list (pys ds)
  | _ => .none
def pys : List D → List PyData
  | [] => []
  | d :: ds => py d :: pys ds
end
mutual
theorem py_plain (b : Bool) : ∀ (n : Nat) (d : D), TT.D.pl b n d = true → (py d).plain = true
  | _, .non, _ => rfl
  | _, .bl _, _ => rfl
  | _, .int _, _ => rfl
  | _, .str _, _ => rfl
  | 0, .tup ds, h => by simp [TT.D.pl] at h
  | n + 1, .tup ds, h => pys_plain b n ds (by simpa [TT.D.pl] using h)
  | 0, .lst ds, h => by simp [TT.D.pl] at h
  | n + 1, .lst ds, h => pys_plain b n ds (by simpa [TT.D.pl] using h)
  | _, .rol _, h => by simp [TT.D.pl] at h
  | _, .dct _ _ _, h => by simp [TT.D.pl] at h
  | _, .obj _ _ _, h => by simp [TT.D.pl] at h
theorem pys_plain (b : Bool) : ∀ (n : Nat) (ds : List D), TT.Ds.pl b n ds = true → PyData.plainAll (pys ds) = true
  | _, [], _ => rfl
  | n, d :: ds, h => by
    simp only [TT.Ds.pl, Bool.and_eq_true] at h
    simp only [pys, PyData.plainAll, py_plain b n d h.1, pys_plain b n ds h.2, Bool.and_self]
end
mutual
theorem py_depth (b : Bool) : ∀ (n : Nat) (d : D), TT.D.pl b n d = true → (py d).depth ≤ n
  | _, .non, _ => by simp [py, PyData.depth]
  | _, .bl _, _ => by simp [py, PyData.depth]
  | _, .int _, _ => by simp [py, PyData.depth]
  | _, .str _, _ => by simp [py, PyData.depth]
  | 0, .tup ds, h => by simp [TT.D.pl] at h
  | n + 1, .tup ds, h => by
    have := pys_depth b n ds (by simpa [TT.D.pl] using h)
    simp only [py, PyData.depth]; omega
  | 0, .lst ds, h => by simp [TT.D.pl] at h
  | n + 1, .lst ds, h => by
    have := pys_depth b n ds (by simpa [TT.D.pl] using h)
    simp only [py, PyData.depth]; omega
  | _, .rol _, h => by simp [TT.D.pl] at h
  | _, .dct _ _ _, h => by simp [TT.D.pl] at h
  | _, .obj _ _ _, h => by simp [TT.D.pl] at h
theorem pys_depth (b : Bool) : ∀ (n : Nat) (ds : List D), TT.Ds.pl b n ds = true → PyData.depthAll (pys ds) ≤ n
  | _, [], _ => by simp [pys, PyData.depthAll]
  | n, d :: ds, h => by
    simp only [TT.Ds.pl, Bool.and_eq_true] at h
    have h1 := py_depth b n d h.1
    have h2 := pys_depth b n ds h.2
    simp only [pys, PyData.depthAll]; omega
end
theorem pl_tup {b : Bool} {n : Nat} {ds : List D} (h : TT.D.pl b n (.tup ds) = true) : ∃ k, TT.Ds.pl b k ds = true := by
  cases n with
  | zero => simp [TT.D.pl] at h
  | succ k => exact ⟨k, by simpa [TT.D.pl] using h⟩
theorem pl_lst {b : Bool} {n : Nat} {ds : List D} (h : TT.D.pl b n (.lst ds) = true) : ∃ k, TT.Ds.pl b k ds = true := by
  cases n with
  | zero => simp [TT.D.pl] at h
  | succ k => exact ⟨k, by simpa [TT.D.pl] using h⟩
mutual
theorem py_eqv (b : Bool) : ∀ (d : D) (n m : Nat) (e : D), TT.D.pl b n d = true → TT.D.pl b m e = true → PyData.eqv (py d) (py e) = decide (d = e)
  | .non, n, m, e, hd, he => by cases e <;> first | (simp [TT.D.pl] at he; done) | simp [py, PyData.eqv]
  | .bl x, n, m, e, hd, he => by cases e <;> first | (simp [TT.D.pl] at he; done) | (simp [TT.D.pl] at hd he; simp_all; done) | (cases b <;> simp_all [TT.D.pl, py, PyData.eqv] <;> rfl)
  | .int x, n, m, e, hd, he => by cases e <;> first | (simp [TT.D.pl] at he; done) | (cases b <;> simp_all [TT.D.pl, py, PyData.eqv] <;> rfl)
  | .str x, n, m, e, hd, he => by cases e <;> first | (simp [TT.D.pl] at he; done) | (cases b <;> simp_all [TT.D.pl, py, PyData.eqv] <;> rfl)
  | .tup ds, n, m, e, hd, he => by
    obtain ⟨k, hk⟩ := pl_tup hd
    cases e <;> first | (simp [TT.D.pl] at he; done) | (simp [py, PyData.eqv]; done) | skip
    rename_i es
    obtain ⟨j, hj⟩ := pl_tup he
    simp only [py, PyData.eqv, pys_eqv b ds k j es hk hj, TT.D.tup.injEq]
  | .lst ds, n, m, e, hd, he => by
    obtain ⟨k, hk⟩ := pl_lst hd
    cases e <;> first | (simp [TT.D.pl] at he; done) | (simp [py, PyData.eqv]; done) | skip
    rename_i es
    obtain ⟨j, hj⟩ := pl_lst he
    simp only [py, PyData.eqv, pys_eqv b ds k j es hk hj, TT.D.lst.injEq]
  | .rol _, _, _, _, hd, _ => by simp [TT.D.pl] at hd
  | .dct _ _ _, _, _, _, hd, _ => by simp [TT.D.pl] at hd
  | .obj _ _ _, _, _, _, hd, _ => by simp [TT.D.pl] at hd
theorem pys_eqv (b : Bool) : ∀ (ds : List D) (n m : Nat) (es : List D), TT.Ds.pl b n ds = true → TT.Ds.pl b m es = true → PyData.eqvAll (pys ds) (pys es) = decide (ds = es)
  | [], _, _, [], _, _ => by simp [pys, PyData.eqvAll]
  | [], _, _, e :: es, _, _ => by simp [pys, PyData.eqvAll]
  | d :: ds, _, _, [], _, _ => by simp [pys, PyData.eqvAll]
  | d :: ds, n, m, e :: es, hd, he => by
    simp only [TT.Ds.pl, Bool.and_eq_true] at hd he
    simp only [pys, PyData.eqvAll, py_eqv b d n m e hd.1 he.1, pys_eqv b ds n m es hd.2 he.2, List.cons.injEq, Bool.decide_and]
end
theorem pys_any (b : Bool) (n m : Nat) (d : D) (hd : TT.D.pl b m d = true) : ∀ ds : List D, TT.Ds.pl b n ds = true → ((pys ds).any fun y => PyData.eqv y (py d)) = decide (d ∈ ds)
  | [], _ => by simp [pys]
  | e :: es, h => by
    simp only [TT.Ds.pl, Bool.and_eq_true] at h
    simp only [pys, List.any_cons, py_eqv b e n m d h.1 hd, pys_any b n m d hd es h.2, List.mem_cons, Bool.decide_or]
    congr 1
    exact decide_eq_decide.mpr ⟨fun q => q.symm, fun q => q.symm⟩
section
variable {N : Nm} {K : PySem.W.Frag} {T : List (Addr × Str)} {L L' : Loc} {H H' : Hp} {s : Sto}
mutual
theorem RepD.dp (b : Bool) : ∀ (n : Nat) (d : D) (v : L2.V), TT.D.pl b n d = true → RepD N K L H v d → Dp K H v (py d)
  | _, .non, _, _, r => by cases r; exact .non
  | _, .bl b, _, _, r => by cases r; exact .bl b
  | _, .int i, _, _, r => by cases r; exact .int i
  | _, .str x, _, _, r => by cases r; exact .str x
  | 0, .tup ds, _, h, _ => by simp [TT.D.pl] at h
  | n + 1, .tup ds, _, h, r => by
    cases r with
    | tup e r => exact .tup e.seq (RepDs.dp b n ds _ (by simpa [TT.D.pl] using h) r)
  | 0, .lst ds, _, h, _ => by simp [TT.D.pl] at h
  | n + 1, .lst ds, _, h, r => by
    cases r with
    | lst _ e r => exact .lst (SqL.of e) (RepDs.dp b n ds _ (by simpa [TT.D.pl] using h) r)
  | _, .rol _, _, h, _ => by simp [TT.D.pl] at h
  | _, .dct _ _ _, _, h, _ => by simp [TT.D.pl] at h
  | _, .obj _ _ _, _, h, _ => by simp [TT.D.pl] at h
theorem RepDs.dp (b : Bool) : ∀ (n : Nat) (ds : List D) (vs : List L2.V), TT.Ds.pl b n ds = true → RepDs N K L H vs ds → DpAll K H vs (pys ds)
  | _, [], _, _, r => by cases r; exact .nil
  | n, d :: ds, _, h, r => by
    simp only [TT.Ds.pl, Bool.and_eq_true] at h
    cases r with
    | cons r t => exact .cons (RepD.dp b n d _ h.1 r) (RepDs.dp b n ds _ h.2 t)
end
theorem datOf_dp {b : Bool} {n : Nat} {v : L2.V} {w : W} {d : D} (z : RelS N K T L H s) (r : RepW N K L H v w) (h : TT.datOf s w = some d) (hp : TT.D.pl b n d = true) : Dp K H v (py d) := by
  cases w with
  | d x =>
    simp only [TT.datOf, Option.some.injEq] at h
    subst h
    exact RepD.dp b n _ _ hp r
  | loc l =>
    simp only [TT.datOf] at h
    split at h
    · rename_i ds e
      cases h
      obtain ⟨a, xs, rfl, q, rs⟩ := lstM_rep (w := .loc l) (ds := ds) z r (by simp only [TT.lstM, e])
      cases n with
      | zero => simp [TT.D.pl] at hp
      | succ n => exact .lst (SqL.of q) (RepDs.dp b n ds _ (by simpa [TT.D.pl] using hp) rs)
    · cases h
theorem fair_ex {a b : D} (h : TT.fair a b = true) : ∃ q, TT.D.pl q 12 a = true ∧ TT.D.pl q 12 b = true := by
  simp only [TT.fair, Bool.or_eq_true, Bool.and_eq_true] at h
  rcases h with h | h
  · exact ⟨_, h⟩
  · exact ⟨_, h⟩
end
section
variable {N : Nm} {X : Cx} {T : List (Addr × Str)}
/-- == and != of data -/
def rEqP (K : PySem.W.Frag) (neg : Bool) : R2 := fun x y H Q => ∃ d e, Dp K H x d ∧ Dp K H y e ∧ d.plain = true ∧ e.plain = true ∧ d.depth ≤ 12 ∧ Q (.bl (if neg then !PyData.eqv d e else PyData.eqv d e)) H
theorem op_eqP (hu : X.A.units + 64 < cLine) : OpR X (compareOp .Eq) (rEqP X.K false) := by
  intro pins s σ H x y v u Q I rx ry h
  obtain ⟨d, e, hd, he, pd, pe, dd, q⟩ := h
  obtain ⟨as, r1⟩ := Dp.reads I d x v hd rx
  obtain ⟨bs, r2⟩ := Dp.reads I e y u he ry
  exact SeqAt.eq_plain r1 r2 pd pe (by omega) ⟨.bl _, H, I, rfl, q⟩
theorem op_neP (hu : X.A.units + 64 < cLine) : OpR X (compareOp .NotEq) (rEqP X.K true) := by
  intro pins s σ H x y v u Q I rx ry h
  obtain ⟨d, e, hd, he, pd, pe, dd, q⟩ := h
  obtain ⟨as, r1⟩ := Dp.reads I d x v hd rx
  obtain ⟨bs, r2⟩ := Dp.reads I e y u he ry
  exact SeqAt.ne_plain r1 r2 pd pe (by omega) ⟨.bl _, H, I, rfl, q⟩
mutual
theorem kn_pl : ∀ (n : Nat) (d : D), TT.D.kn n d = true → TT.D.pl false n d = true
  | n, .non, _ => by simp [TT.D.pl]
  | n, .int _, _ => by simp [TT.D.pl]
  | n + 1, .tup ds, h => by simp only [TT.D.kn] at h; simp only [TT.D.pl]; exact kns_pl n ds h
  | 0, .tup _, h => by simp [TT.D.kn] at h
  | n, .bl _, h => by simp [TT.D.kn] at h
  | n, .str _, h => by simp [TT.D.kn] at h
  | n, .lst _, h => by simp [TT.D.kn] at h
  | n, .rol _, h => by simp [TT.D.kn] at h
  | n, .dct _ _ _, h => by simp [TT.D.kn] at h
  | n, .obj _ _ _, h => by simp [TT.D.kn] at h
theorem kns_pl : ∀ (n : Nat) (ds : List D), TT.Ds.kn n ds = true → TT.Ds.pl false n ds = true
  | n, [], _ => by cases n <;> simp [TT.Ds.pl]
  | n, d :: ds, h => by
    simp only [TT.Ds.kn, Bool.and_eq_true] at h
    simp only [TT.Ds.pl, Bool.and_eq_true]
    exact ⟨kn_pl n d h.1, kns_pl n ds h.2⟩
end
mutual
theorem al_py : ∀ (n : Nat) (a b : D), TT.D.al n a b = true → PySem.W.alike (py a) (py b) = true
  | n, .int _, b, h => by cases b <;> first | (simp [TT.D.al] at h; done) | simp [py, PySem.W.alike]
  | n + 1, .tup x, b, h => by
    cases b <;> first | (simp [TT.D.al] at h; done) | skip
    rename_i y
    simp only [TT.D.al] at h
    simp only [py, PySem.W.alike]
    exact als_py n x y h
  | 0, .tup x, b, h => by cases b <;> simp [TT.D.al] at h
  | n, .non, b, h => by simp [TT.D.al] at h
  | n, .bl _, b, h => by simp [TT.D.al] at h
  | n, .str _, b, h => by simp [TT.D.al] at h
  | n, .lst _, b, h => by simp [TT.D.al] at h
  | n, .rol _, b, h => by simp [TT.D.al] at h
  | n, .dct _ _ _, b, h => by simp [TT.D.al] at h
  | n, .obj _ _ _, b, h => by simp [TT.D.al] at h
theorem als_py : ∀ (n : Nat) (a b : List D), TT.Ds.al n a b = true → PySem.W.alikeAll (pys a) (pys b) = true
  | n, [], b, h => by simp [pys, PySem.W.alikeAll]
  | n, x :: xs, [], h => by simp [pys, PySem.W.alikeAll]
  | n, x :: xs, y :: ys, h => by
    simp only [TT.Ds.al, Bool.and_eq_true] at h
    simp only [pys, PySem.W.alikeAll, Bool.and_eq_true]
    exact ⟨al_py n x y h.1, als_py n xs ys h.2⟩
end
mutual
theorem lt_py : ∀ (n : Nat) (a b : D) (r : Bool), TT.D.al n a b = true → TT.D.pl false n a = true → TT.D.pl false n b = true → TT.D.lt a b = some r → PySem.W.dataLt (py a) (py b) = r
  | n, .int i, b, r, h, _, _, e => by
    cases b <;> first | (simp [TT.D.al] at h; done) | skip
    simp only [TT.D.lt, Option.some.injEq] at e
    simp only [py]
    rw [PySem.W.dataLt_int, e]
  | n + 1, .tup x, b, r, h, ha, hb, e => by
    cases b <;> first | (simp [TT.D.al] at h; done) | skip
    rename_i y
    simp only [TT.D.al] at h
    simp only [TT.D.pl] at ha hb
    simp only [TT.D.lt] at e
    simp only [py]
    rw [PySem.W.dataLt_tuple]
    exact lts_py n x y r h ha hb e
  | 0, .tup x, b, r, h, _, _, _ => by cases b <;> simp [TT.D.al] at h
  | n, .non, b, r, h, _, _, _ => by simp [TT.D.al] at h
  | n, .bl _, b, r, h, _, _, _ => by simp [TT.D.al] at h
  | n, .str _, b, r, h, _, _, _ => by simp [TT.D.al] at h
  | n, .lst _, b, r, h, _, _, _ => by simp [TT.D.al] at h
  | n, .rol _, b, r, h, _, _, _ => by simp [TT.D.al] at h
  | n, .dct _ _ _, b, r, h, _, _, _ => by simp [TT.D.al] at h
  | n, .obj _ _ _, b, r, h, _, _, _ => by simp [TT.D.al] at h
theorem lts_py : ∀ (n : Nat) (a b : List D) (r : Bool), TT.Ds.al n a b = true → TT.Ds.pl false n a = true → TT.Ds.pl false n b = true → TT.Ds.lt a b = some r → PyProof.Rows.lexLt itemOrd (PySem.W.keyToksAll (pys a)) (PySem.W.keyToksAll (pys b)) = r
  | n, [], [], r, _, _, _, e => by
    simp only [TT.Ds.lt, Option.some.injEq] at e
    subst e
    exact PyProof.Rows.lex_irrefl _
  | n, [], y :: ys, r, _, _, _, e => by
    simp only [TT.Ds.lt, Option.some.injEq] at e
    subst e
    simp only [pys]
    rw [PySem.W.toks_all_cons]
    simp only [PySem.W.keyToksAll]
    rw [PyProof.Rows.lex_diff (O := itemOrd) (by simp)]
    rfl
  | n, x :: xs, [], r, _, _, _, e => by
    simp only [TT.Ds.lt, Option.some.injEq] at e
    subst e
    simp only [pys]
    rw [PySem.W.toks_all_cons]
    simp only [PySem.W.keyToksAll]
    rw [PyProof.Rows.lex_diff (O := itemOrd) (by simp)]
    rfl
  | n, x :: xs, y :: ys, r, h, ha, hb, e => by
    simp only [TT.Ds.al, Bool.and_eq_true] at h
    simp only [TT.Ds.pl, Bool.and_eq_true] at ha hb
    simp only [TT.Ds.lt] at e
    simp only [pys]
    have q := py_eqv false x n n y ha.1 hb.1
    by_cases z : x = y
    · rw [if_pos z] at e
      rw [PySem.W.dataLt_all_yes (al_py n x y h.1) (by rw [q]; exact decide_eq_true z)]
      exact lts_py n xs ys r h.2 ha.2 hb.2 e
    · rw [if_neg z] at e
      rw [PySem.W.dataLt_all_no (al_py n x y h.1) (by rw [q]; exact decide_eq_false z)]
      exact lt_py n x y r h.1 ha.1 hb.1 e
end
def rLtD (K : PySem.W.Frag) : R2 := fun x y H Q => ∃ d e, Dp K H x d ∧ Dp K H y e ∧ PySem.W.alike d e = true ∧ d ≠ .none ∧ d.depth ≤ 12 ∧ Q (.bl (PySem.W.dataLt d e)) H
theorem op_ltD (hu : X.A.units + 64 < cLine) : OpR X (compareOp .Lt) (rLtD X.K) := by
  intro pins s σ H x y v u Q I rx ry h
  obtain ⟨d, e, hd, he, al, nn, dd, q⟩ := h
  obtain ⟨as, r1⟩ := Dp.reads I d x v hd rx
  obtain ⟨bs, r2⟩ := Dp.reads I e y u he ry
  exact PySem.W.lt_data r1 r2 al nn (by omega) ⟨.bl _, H, I, rfl, q⟩
theorem snd_lt (hu : X.A.units + 64 < cLine) : Snd2 N X T (compareOp .Lt) (fun x y s => TT.opSem .lt [x, y] s) := by
  refine ⟨_, op_ltD hu, fun fz L H s x y wx wy Q er z rx ry o => ?_⟩
  simp only [TT.opSem] at o
  unfold TT.ltS at o
  split at o
  · rename_i i j
    refine ⟨.int i, .int j, datOf_dp (b := false) (n := 0) (d := .int i) z rx rfl rfl, datOf_dp (b := false) (n := 0) (d := .int j) z ry rfl rfl, al_py 0 (.int i) (.int j) rfl, (nofun), by simp [PyData.depth], ?_⟩
    rw [PySem.W.dataLt_int]
    exact fin_bl z o
  · rename_i a b
    split at o
    · rename_i h
      simp only [Bool.and_eq_true] at h
      have ha : TT.D.pl false 8 (.tup a) = true := kns_pl 7 a h.1.2
      have hb : TT.D.pl false 8 (.tup b) = true := kns_pl 7 b h.2
      cases e : TT.Ds.lt a b with
      | none => rw [e] at o; exact no_out o
      | some r =>
        rw [e] at o
        refine ⟨py (.tup a), py (.tup b), datOf_dp z rx rfl ha, datOf_dp z ry rfl hb, al_py 8 (.tup a) (.tup b) h.1.1, (nofun), Nat.le_trans (py_depth _ _ _ ha) (by omega), ?_⟩
        rw [lt_py 8 (.tup a) (.tup b) r h.1.1 ha hb e]
        exact fin_bl z o
    · exact no_out o
  · exact no_out o
theorem eqS_snd {fz : Bool} {L : Loc} {H : Hp} {s : Sto} {x y : L2.V} {wx wy : W} {Q : VK} {er : Nat → Hp → Prop} (z : RelS N X.K T L H s) (rx : RepW N X.K L H x wx) (ry : RepW N X.K L H y wy)
    (o : Out N X.K T L H (okW N X.K Q) er ((TT.eqS true wx wy s).bind (TT.fin fz))) : rEqP X.K true x y H Q := by
  unfold TT.eqS at o
  split at o
  · rename_i a b e1 e2
    simp only [if_true] at o
    unfold TT.pyEq at o
    split at o
    · rename_i hf
      obtain ⟨q, h1, h2⟩ := fair_ex hf
      refine ⟨py a, py b, datOf_dp z rx e1 h1, datOf_dp z ry e2 h2, py_plain _ _ _ h1, py_plain _ _ _ h2, py_depth _ _ _ h1, ?_⟩
      rw [py_eqv q a 12 12 b h1 h2]
      exact fin_bl z o
    · exact no_out o
  · exact no_out o
theorem snd_ne (hu : X.A.units + 64 < cLine) : Snd2 N X T (compareOp .NotEq) (fun x y s => TT.opSem .ne [x, y] s) :=
  ⟨_, op_neP hu, fun fz L H s x y wx wy Q er z rx ry o => eqS_snd z rx ry o⟩
/-- in, not in a list or a tuple of data -/
def rInP (K : PySem.W.Frag) (neg : Bool) : R2 := fun x y H Q => ∃ d a xs es, Dp K H x d ∧ y = .ref a ∧ (SqL K H a xs ∨ SqT K H a xs) ∧ DpAll K H xs es ∧ d.plain = true ∧ PyData.plainAll es = true ∧ d.depth ≤ 12 ∧
  Q (.bl (if neg then !es.any (fun y => PyData.eqv y d) else es.any (fun y => PyData.eqv y d))) H
theorem op_inP (hu : X.A.units + 64 < cLine) : OpR X (compareOp .In) (rInP X.K false) := by
  intro pins s σ H x y v u Q I rx ry h
  obtain ⟨d, a, xs, es, hd, rfl, hs, he, pd, pe, dd, q⟩ := h
  obtain ⟨as, r1⟩ := Dp.reads I d x v hd rx
  rcases hs with hs | hs
  · obtain ⟨bs, r2⟩ := Dp.reads I (.list es) _ u (.lst hs he) ry
    exact SeqAt.in_list_data r2 r1 pe pd (by omega) ⟨.bl _, H, I, rfl, q⟩
  · obtain ⟨bs, r2⟩ := Dp.reads I (.tuple es) _ u (.tup hs he) ry
    exact SeqAt.in_tuple_data r2 r1 pe pd (by omega) ⟨.bl _, H, I, rfl, q⟩
theorem op_ninP (hu : X.A.units + 64 < cLine) : OpR X (compareOp .NotIn) (rInP X.K true) := by
  intro pins s σ H x y v u Q I rx ry h
  obtain ⟨d, a, xs, es, hd, rfl, hs, he, pd, pe, dd, q⟩ := h
  obtain ⟨as, r1⟩ := Dp.reads I d x v hd rx
  rcases hs with hs | hs
  · obtain ⟨bs, r2⟩ := Dp.reads I (.list es) _ u (.lst hs he) ry
    exact SeqAt.notIn_list_data r2 r1 pe pd (by omega) ⟨.bl _, H, I, rfl, q⟩
  · obtain ⟨bs, r2⟩ := Dp.reads I (.tuple es) _ u (.tup hs he) ry
    exact SeqAt.notIn_tuple_data r2 r1 pe pd (by omega) ⟨.bl _, H, I, rfl, q⟩
theorem pyIn_ex {a : D} {ds : List D} {b : Bool} (h : TT.pyIn a ds = some b) : b = decide (a ∈ ds) ∧ ∃ q, TT.D.pl q 12 a = true ∧ TT.Ds.pl q 12 ds = true := by
  unfold TT.pyIn at h
  split at h
  · rename_i hc
    simp only [Bool.or_eq_true, Bool.and_eq_true] at hc
    cases h
    refine ⟨rfl, ?_⟩
    rcases hc with hc | hc
    · exact ⟨_, hc⟩
    · exact ⟨_, hc⟩
  · cases h
theorem inS_snd {neg : Bool} {fz : Bool} {L : Loc} {H : Hp} {s : Sto} {x y : L2.V} {wx wy : W} {Q : VK} {er : Nat → Hp → Prop} (z : RelS N X.K T L H s) (rx : RepW N X.K L H x wx) (ry : RepW N X.K L H y wy)
    (o : Out N X.K T L H (okW N X.K Q) er ((TT.inSq neg wx wy s).bind (TT.fin fz))) : rInP X.K neg x y H Q := by
  unfold TT.inSq at o
  split at o
  · rename_i a ds e2
    cases e : TT.pyIn a ds with
    | none => rw [e] at o; exact no_out o
    | some r =>
      rw [e] at o
      obtain ⟨rfl, q, h1, h2⟩ := pyIn_ex e
      obtain ⟨b, xs, rfl, hs, rs⟩ := seqOf_rep z ry e2
      refine ⟨py a, b, xs, pys ds, RepD.dp q 12 _ _ h1 rx, rfl, hs, RepDs.dp q 12 _ _ h2 rs, py_plain _ _ _ h1, pys_plain _ _ _ h2, py_depth _ _ _ h1, ?_⟩
      rw [pys_any q 12 12 a h1 ds h2]
      exact fin_bl z o
  · exact no_out o
theorem snd_inS (hu : X.A.units + 64 < cLine) : Snd2 N X T (compareOp .In) (fun x y s => TT.opSem .inS [x, y] s) :=
  ⟨_, op_inP hu, fun fz L H s x y wx wy Q er z rx ry o => inS_snd z rx ry o⟩
theorem snd_ninS (hu : X.A.units + 64 < cLine) : Snd2 N X T (compareOp .NotIn) (fun x y s => TT.opSem .ninS [x, y] s) :=
  ⟨_, op_ninP hu, fun fz L H s x y wx wy Q er z rx ry o => inS_snd z rx ry o⟩
end
end TS

set_option maxRecDepth 100000
/-! Dicts whose keys are tuples, tuples within. -/
namespace TS
open PySem PySem.Spec PyProof.Rows L2
mutual
theorem nk_hash (w w' : World) : ∀ (n : Nat) (d : D), TT.D.kn n d = true → (nk d).hash w = (nk d).hash w'
  | n, .non, _ => by simp [nk, NestedKey.hash]
  | n, .int _, _ => by simp [nk, NestedKey.hash]
  | n + 1, .tup ds, h => by
    simp only [TT.D.kn] at h
    simp only [nk, NestedKey.hash, nks_hash w w' n ds h]
  | 0, .tup _, h => by simp [TT.D.kn] at h
  | n, .bl _, h => by simp [TT.D.kn] at h
  | n, .str _, h => by simp [TT.D.kn] at h
  | n, .lst _, h => by simp [TT.D.kn] at h
  | n, .rol _, h => by simp [TT.D.kn] at h
  | n, .dct _ _ _, h => by simp [TT.D.kn] at h
  | n, .obj _ _ _, h => by simp [TT.D.kn] at h
theorem nks_hash (w w' : World) : ∀ (n : Nat) (ds : List D), TT.Ds.kn n ds = true → NestedKey.hashes w (nks ds) = NestedKey.hashes w' (nks ds)
  | n, [], _ => by simp [nks, NestedKey.hashes]
  | n, d :: ds, h => by
    simp only [TT.Ds.kn, Bool.and_eq_true] at h
    simp only [nks, NestedKey.hashes, nk_hash w w' n d h.1, nks_hash w w' n ds h.2]
end
mutual
theorem nk_inj : ∀ (n m : Nat) (d e : D), TT.D.kn n d = true → TT.D.kn m e = true → nk d = nk e → d = e
  | n, m, .non, e, _, he, q => by cases e <;> simp_all [nk, TT.D.kn]
  | n, m, .int _, e, _, he, q => by cases e <;> simp_all [nk, TT.D.kn]
  | n + 1, m, .tup ds, e, h, he, q => by
    cases e <;> first | (simp [TT.D.kn] at he; done) | (simp [nk] at q; done) | skip
    rename_i es
    cases m with
    | zero => simp [TT.D.kn] at he
    | succ m =>
      simp only [TT.D.kn] at h he
      simp only [nk, NestedKey.tup.injEq] at q
      rw [nks_inj n m ds es h he q]
  | 0, m, .tup _, e, h, _, _ => by simp [TT.D.kn] at h
  | n, m, .bl _, e, h, _, _ => by simp [TT.D.kn] at h
  | n, m, .str _, e, h, _, _ => by simp [TT.D.kn] at h
  | n, m, .lst _, e, h, _, _ => by simp [TT.D.kn] at h
  | n, m, .rol _, e, h, _, _ => by simp [TT.D.kn] at h
  | n, m, .dct _ _ _, e, h, _, _ => by simp [TT.D.kn] at h
  | n, m, .obj _ _ _, e, h, _, _ => by simp [TT.D.kn] at h
theorem nks_inj : ∀ (n m : Nat) (d e : List D), TT.Ds.kn n d = true → TT.Ds.kn m e = true → nks d = nks e → d = e
  | n, m, [], e, _, _, q => by cases e <;> simp_all [nks]
  | n, m, d :: ds, e, h, he, q => by
    cases e with
    | nil => simp [nks] at q
    | cons e es =>
      simp only [TT.Ds.kn, Bool.and_eq_true] at h he
      simp only [nks, List.cons.injEq] at q
      rw [nk_inj n m d e h.1 he.1 q.1, nks_inj n m ds es h.2 he.2 q.2]
end
mutual
theorem nk_depth : ∀ (n : Nat) (d : D), TT.D.kn n d = true → (nk d).depth ≤ n
  | n, .non, _ => by simp [nk, NestedKey.depth]
  | n, .int _, _ => by simp [nk, NestedKey.depth]
  | n + 1, .tup ds, h => by
    simp only [TT.D.kn] at h
    simp only [nk, NestedKey.depth]
    exact Nat.succ_le_succ (nks_depth n ds h)
  | 0, .tup _, h => by simp [TT.D.kn] at h
  | n, .bl _, h => by simp [TT.D.kn] at h
  | n, .str _, h => by simp [TT.D.kn] at h
  | n, .lst _, h => by simp [TT.D.kn] at h
  | n, .rol _, h => by simp [TT.D.kn] at h
  | n, .dct _ _ _, h => by simp [TT.D.kn] at h
  | n, .obj _ _ _, h => by simp [TT.D.kn] at h
theorem nks_depth : ∀ (n : Nat) (ds : List D), TT.Ds.kn n ds = true → NestedKey.depthAll (nks ds) ≤ n
  | n, [], _ => by simp [nks, NestedKey.depthAll]
  | n, d :: ds, h => by
    simp only [TT.Ds.kn, Bool.and_eq_true] at h
    simp only [nks, NestedKey.depthAll]
    have := nk_depth n d h.1
    have := nks_depth n ds h.2
    omega
end
mutual
theorem nk_reads {h : Heap} : ∀ (n : Nat) (d : D) (v : Value) (as : List Addr), TT.D.kn n d = true → Reads h v (py d) as → NestedIs h (nk d) v
  | n, .non, v, as, _, r => by simp only [py] at r; cases r; exact .none
  | n, .int i, v, as, _, r => by simp only [py] at r; cases r; exact .int _ _
  | n + 1, .tup ds, v, as, k, r => by
    simp only [TT.D.kn] at k
    simp only [py] at r
    cases r with
    | tuple h1 h2 h3 h4 => exact .tup h1 h2 h3 (nks_reads n ds _ _ k h4)
  | 0, .tup _, _, _, h, _ => by simp [TT.D.kn] at h
  | n, .bl _, _, _, h, _ => by simp [TT.D.kn] at h
  | n, .str _, _, _, h, _ => by simp [TT.D.kn] at h
  | n, .lst _, _, _, h, _ => by simp [TT.D.kn] at h
  | n, .rol _, _, _, h, _ => by simp [TT.D.kn] at h
  | n, .dct _ _ _, _, _, h, _ => by simp [TT.D.kn] at h
  | n, .obj _ _ _, _, _, h, _ => by simp [TT.D.kn] at h
theorem nks_reads {h : Heap} : ∀ (n : Nat) (ds : List D) (vs : List Value) (as : List Addr), TT.Ds.kn n ds = true → ReadsAll h vs (pys ds) as → NestedAll h (nks ds) vs
  | n, [], _, _, _, r => by simp only [pys] at r; cases r; exact .nil
  | n, d :: ds, _, _, k, r => by
    simp only [TT.Ds.kn, Bool.and_eq_true] at k
    simp only [pys] at r
    cases r with
    | cons r1 r2 => exact .cons (nk_reads n d _ _ k.1 r1) (nks_reads n ds _ _ k.2 r2)
end
theorem keyN_kn {d : D} (h : TT.keyN d = true) : TT.D.kn 8 d = true := by
  cases d <;> first | (simp [TT.keyN] at h; done) | skip
  simpa [TT.keyN, TT.D.kn] using h
section
variable {X : Cx} {pins : List (Addr × Obj)} {σ : L2.St} {H : Hp} {s : Shared} {a b : Addr} {kvs : List (D × Addr × L2.V)} {k : D}
/-- the tuple at b is the key k -/
theorem key_is (I : Inv X pins σ H s) (hk : TT.keyN k = true) (h : Dp X.K H (.ref b) (py k)) : (nestedKind X.prog X.w).is s.heap (nk k) b := by
  obtain ⟨as, r⟩ := Dp.reads I _ _ (.ref b) h rfl
  have q := keyN_kn hk
  exact ⟨nk_reads 8 k _ _ q r, nk_depth 8 k q⟩
theorem KN.nd {xs : List (NestedKey × Addr × Value)} (r : KN kvs xs) (hk : ∀ p ∈ kvs, TT.keyN p.1 = true) (hn : (kvs.map (·.1)).Nodup) : (xs.map (·.1)).Nodup := by
  have e : xs.map (·.1) = (kvs.map (·.1)).map nk := by
    clear hn hk
    induction r with
    | nil => rfl
    | cons h t ih => simp only [List.map_cons, ih, h.1]
  rw [e]
  clear e r
  induction kvs with
  | nil => simp
  | cons p r ih =>
    simp only [List.map_cons, List.nodup_cons] at hn ⊢
    refine ⟨fun q => ?_, ih (fun p hp => hk p (by simp [hp])) hn.2⟩
    simp only [List.map_map, List.mem_map, Function.comp_apply] at q
    obtain ⟨p', hp', e⟩ := q
    have := nk_inj 8 8 _ _ (keyN_kn (hk p' (by simp [hp']))) (keyN_kn (hk p (by simp))) e
    exact hn.1 (List.mem_map.mpr ⟨p', hp', this⟩)
/-- what is known of such a dict -/
theorem dn_of {w : World} (I : Inv X pins σ H s) (e : H a = some (DN w a kvs)) (k : DnOk a kvs) (hd : ∀ p ∈ kvs, Dp X.K H (.ref p.2.1) (py p.1)) : ∃ xs, KN kvs xs ∧ s.heap.DictOfH (nestedKind X.prog X.w) a xs := by
  obtain ⟨⟨xs, r, o, es, ep, h1, h2, h3, h4⟩, -, -⟩ := (show ObjOk X.prog X.w H s.heap a (.ext (dnP w a kvs)) from I.hok a _ e)
  refine ⟨xs, r, o, es, ep, h1, h2, h3, ?_, ?_, r.nd k.key k.nd⟩
  · rw [h4]
    have kk := k.key
    clear h4 h3 hd k e
    induction r with
    | nil => rfl
    | @cons p q ps qs h t ih =>
      simp only [List.map_cons]
      rw [ih fun p hp => kk p (by simp [hp])]
      congr 1
      show (⟨q.1.hash w, _, _⟩ : DictEntry) = ⟨q.1.hash X.w, _, _⟩
      rw [h.1, nk_hash w X.w 8 p.1 (keyN_kn (kk p (by simp)))]
  · have kk := k.key
    clear h4 h3 k e
    induction r with
    | nil => intro x hx; cases hx
    | @cons p q ps qs h t ih =>
      intro x hx
      rcases List.mem_cons.mp hx with rfl | hx
      · rw [h.1, h.2.1]
        exact key_is I (kk p (by simp)) (hd p (by simp))
      · exact ih (fun p hp => hd p (by simp [hp])) (fun p hp => kk p (by simp [hp])) x hx
def dnAt (kvs : List (D × Addr × L2.V)) (k : D) : Option L2.V := (kvs.find? fun p => decide (p.1 = k)).map (·.2.2)
theorem dnAt_rel {xs : List (NestedKey × Addr × Value)} (r : KN kvs xs) (kk : ∀ p ∈ kvs, TT.keyN p.1 = true) (hk : TT.keyN k = true) : RelO (dnAt kvs k) ((atKey xs (nk k)).map (·.2)) := by
  induction r with
  | nil => exact True.intro
  | @cons p q ps qs h t ih =>
    unfold dnAt atKey
    simp only [List.find?_cons]
    by_cases e : p.1 = k
    · have e' : q.1 = nk k := by rw [h.1, e]
      simp only [decide_eq_true e, decide_eq_true e', Option.map_some]
      exact h.2.2
    · have e' : ¬ q.1 = nk k := fun z => e (nk_inj 8 8 _ _ (keyN_kn (kk p (by simp))) (keyN_kn hk) (by rw [← h.1, z]))
      simp only [decide_eq_false e, decide_eq_false e']
      exact ih fun p hp => kk p (by simp [hp])
/-- the empty dict, too -/
theorem dk_empty (I : Inv X pins σ H s) (e : Rd H a (.dK [])) : (a == sysModules) = false ∧ s.heap.DictOfH (nestedKind X.prog X.w) a [] := by
  obtain ⟨z, hd, vs, rel, o, es, ep, h1, h2, h3, h4, h5, h6⟩ := dk_rd I.hok e
  cases rel
  refine ⟨hd, o, es, ep, h1, h2, h3, ?_, (fun x hx => nomatch hx), List.nodup_nil⟩
  generalize es.toList = l at h5
  cases h5
  rfl
/-- what the dict at a holds at the key y -/
def DGetN (K : PySem.W.Frag) (H : Hp) (a : Addr) (y : L2.V) (r : Option L2.V) : Prop :=
  ∃ b k, y = .ref b ∧ TT.keyN k = true ∧ Dp K H (.ref b) (py k) ∧ ((∃ w kvs, H a = some (DN w a kvs) ∧ DnOk a kvs ∧ (∀ p ∈ kvs, Dp K H (.ref p.2.1) (py p.1)) ∧ r = dnAt kvs k) ∨ (Rd H a (.dK []) ∧ r = none))
theorem DGetN.look {y : L2.V} {u : Value} {r : Option L2.V} (I : Inv X pins σ H s) (g : DGetN X.K H a y r) (ry : RelV y u) :
    ∃ b k xs, u = .ref b ∧ (nestedKind X.prog X.w).is s.heap k b ∧ (a == sysModules) = false ∧ s.heap.DictOfH (nestedKind X.prog X.w) a xs ∧ RelO r ((atKey xs k).map (·.2)) := by
  obtain ⟨b, k, rfl, hk, hd, g⟩ := g
  cases (show u = Value.ref b from ry)
  rcases g with ⟨w, kvs, e, ok, ds, rfl⟩ | ⟨e, rfl⟩
  · obtain ⟨xs, r, d⟩ := dn_of I e ok ds
    exact ⟨b, nk k, xs, rfl, key_is I hk hd, ok.nsys, d, dnAt_rel r ok.key hk⟩
  · obtain ⟨h1, h2⟩ := dk_empty I e
    exact ⟨b, nk k, [], rfl, key_is I hk hd, h1, h2, True.intro⟩
theorem nroom {A : Around} (hu : A.units + 64 < cLine) : (nestedKind X.prog X.w).room A.in1 := by show A.units + 1 + 8 < cLine; omega
end
section
variable {X : Cx}
def rInN (K : PySem.W.Frag) (neg : Bool) : R2 := fun y x H Q => ∃ a o, x = .ref a ∧ DGetN K H a y o ∧ Q (.bl (if neg then !o.isSome else o.isSome)) H
theorem op_inN (hu : X.A.units + 64 < cLine) : OpR X (compareOp .In) (rInN X.K false) := by
  intro pins s σ H y x u v Q I ry rx h
  obtain ⟨a, o, rfl, g, q⟩ := h
  cases rx
  obtain ⟨b, k, xs, rfl, hk, hs, d, ro⟩ := g.look I ry
  refine wpAny_in_heap (nroom hu) hk hs d ?_
  have e := ro.isSome_eq
  rw [Option.isSome_map] at e
  rw [← e]
  exact ⟨.bl _, H, I.tok _, rfl, q⟩
theorem op_ninN (hu : X.A.units + 64 < cLine) : OpR X (compareOp .NotIn) (rInN X.K true) := by
  intro pins s σ H y x u v Q I ry rx h
  obtain ⟨a, o, rfl, g, q⟩ := h
  cases rx
  obtain ⟨b, k, xs, rfl, hk, hs, d, ro⟩ := g.look I ry
  refine wpAny_notIn_heap (nroom hu) hk hs d ?_
  have e := ro.isSome_eq
  rw [Option.isSome_map] at e
  rw [← e]
  exact ⟨.bl _, H, I.tok _, rfl, q⟩
def rIxN (K : PySem.W.Frag) : R2 := fun x y H Q => ∃ a v, x = .ref a ∧ DGetN K H a y (some v) ∧ Q v H
def rIxDD : R2 := fun x y H Q => ∃ a v, x = .ref a ∧ DGet H a y (some v) ∧ Q v H
theorem ix_dd (hu : X.A.units + 64 < cLine) : IxR X rIxDD := by
  intro value slice pins s σ H x y v u Q I rx ry h hs
  obtain ⟨a, r, rfl, g, q⟩ := h
  obtain rfl : v = Value.ref a := rx
  exact tail_any (dict_typeIs I g) slot_dict_getitem.lookup (d_getItem (by omega) I g ry fun w' s' I' rw' => ⟨r, H, I', rw', q⟩) hs
theorem ix_dn (hu : X.A.units + 64 < cLine) : IxR X (rIxN X.K) := by
  intro value slice pins s σ H x y v u Q I rx ry h hs
  obtain ⟨a, r, rfl, g, q⟩ := h
  obtain rfl : v = Value.ref a := rx
  obtain ⟨b, k, xs, rfl, hk, hsy, d, ro⟩ := g.look I ry
  obtain ⟨w', hw, rw'⟩ := RelO.some_of ro
  obtain ⟨p, hp, hp2⟩ := Option.map_eq_some_iff.mp hw
  refine tail_any d.typeIs slot_dict_getitem.lookup (wpAny_getItem_heap (nroom hu) hk d hp ?_) hs
  rw [hp2]
  exact ⟨r, H, I.tok _, rw', q⟩
/-- .. behind a[k] = v -/
def dnPut (kvs : List (D × Addr × L2.V)) (k : D) (b : Addr) (v : L2.V) : List (D × Addr × L2.V) :=
  if (dnAt kvs k).isSome = true then kvs.map (fun p => if p.1 = k then (p.1, p.2.1, v) else p) else kvs ++ [(k, b, v)]
theorem KN.put {kvs : List (D × Addr × L2.V)} {xs : List (NestedKey × Addr × Value)} {k : D} {b : Addr} {v : L2.V} {u : Value} (r : KN kvs xs) (kk : ∀ p ∈ kvs, TT.keyN p.1 = true) (hk : TT.keyN k = true) (rv : RelV v u) : KN (dnPut kvs k b v) (storedH xs (nk k) b u) := by
  have e := (dnAt_rel r kk hk).isSome_eq
  rw [Option.isSome_map] at e
  unfold dnPut storedH
  rw [e]
  by_cases q : (atKey xs (nk k)).isSome = true
  · rw [if_pos q, if_pos q]
    clear e q
    induction r with
    | nil => exact .nil
    | @cons p q ps qs h t ih =>
      simp only [List.map_cons]
      refine .cons ?_ (ih fun p hp => kk p (by simp [hp]))
      unfold putAt
      by_cases e : p.1 = k
      · rw [if_pos e, if_pos (by rw [h.1, e])]; exact ⟨h.1, h.2.1, rv⟩
      · rw [if_neg e, if_neg (fun z => e (nk_inj 8 8 _ _ (keyN_kn (kk p (by simp))) (keyN_kn hk) (by rw [← h.1, z])))]; exact h
  · rw [if_neg q, if_neg q]
    exact Paired.snoc r ⟨rfl, rfl, rv⟩
/-- the heap behind a[y] = v -/
def DPutN (K : PySem.W.Frag) (w : World) (H : Hp) (a : Addr) (y v : L2.V) (H' : Hp) : Prop :=
  ∃ b k, y = .ref b ∧ TT.keyN k = true ∧ Dp K H (.ref b) (py k) ∧ ((∃ w' kvs, H a = some (DN w' a kvs) ∧ DnOk a kvs ∧ kvs.length < sizeLine ∧ (∀ p ∈ kvs, Dp K H (.ref p.2.1) (py p.1)) ∧ H' = upd H a (DN w a (dnPut kvs k b v))) ∨ (H a = some (.dK []) ∧ H' = upd H a (DN w a [(k, b, v)])))
theorem DPutN.nsys {pins : List (Addr × Obj)} {σ : L2.St} {H H' : Hp} {s : Shared} {a : Addr} {y v : L2.V} {w : World} (g : DPutN X.K w H a y v H') (I : Inv X pins σ H s) : (a == sysModules) = false := by
  obtain ⟨b, k, _, _, _, ⟨_, _, _, ok, _⟩ | ⟨e, _⟩⟩ := g
  · exact ok.nsys
  · exact (dk_of I.hok e).2.1
theorem dn_write {pins : List (Addr × Obj)} {σ : L2.St} {H : Hp} {s : Shared} {h' : Heap} {t' : Nat} {a : Addr} {kvs : List (D × Addr × L2.V)} {xs : List (NestedKey × Addr × Value)} (I : Inv X pins σ H s) (mu : Mut (H a)) (hs : Heap.SameBut a s.heap h') (r : KN kvs xs) (d : h'.DictOfH (nestedKind X.prog X.w) a xs) :
    Inv X pins σ (upd H a (DN X.w a kvs)) { s with heap := h', toks := t' } := by
  obtain ⟨o, es, ep, h1, h2, h3, h4, -, -⟩ := d
  have key : dnP X.w a kvs h' := ⟨xs, r, o, es, ep, h1, h2, h3, h4⟩
  exact d_write I mu hs ⟨o, h1⟩ (show ObjOk X.prog X.w _ h' a (.ext (dnP X.w a kvs)) from ⟨key, ⟨o, h1⟩, fun g1 g2 ⟨xs, r, o, es, ep, e1, e2, e3, e4⟩ hg => ⟨xs, r, o, es, ep, hg o e1, e2, e3, e4⟩⟩)
theorem dn_setItem {pins : List (Addr × Obj)} {σ : L2.St} {H H' : Hp} {s : Shared} {a : Addr} {y v : L2.V} {u r : Value} {A : Around} {E : Value → Shared → Prop} {Q : Unit → Shared → Prop} (hu : A.units + 64 < cLine) (I : Inv X pins σ H s) (g : DPutN X.K X.w H a y v H') (ry : RelV y u) (rv : RelV v r) (h : ∀ s', Inv X pins σ H' s' → Q () s') :
    wpAny (model X.prog X.w) A (setItem (.ref a) u r) Q E s := by
  obtain ⟨b, k, rfl, hk, hd, g⟩ := g
  cases (show u = Value.ref b from ry)
  rcases g with ⟨w', kvs, e, ok, hl, ds, rfl⟩ | ⟨e, rfl⟩
  · obtain ⟨xs, r, d⟩ := dn_of I e ok ds
    have hz : xs.length ≤ sizeLine := by rw [← Paired.length r]; exact ok.len
    refine wpAny_setItem_heap (hsz := hz) (nroom hu) (key_is I hk hd) d fun h' dd' hs => h _ ?_
    exact dn_write I (by rw [e]; exact True.intro) hs (r.put ok.key hk rv) dd'
  · obtain ⟨h1, h2⟩ := dk_empty I (.inl e)
    refine wpAny_setItem_heap (hsz := by rw [sizeLine_eq]; simp) (nroom hu) (key_is I hk hd) h2 fun h' dd' hs => h _ ?_
    exact dn_write I (by rw [e]; exact True.intro) hs (xs := [(nk k, b, r)]) (.cons ⟨rfl, rfl, rv⟩ .nil) dd'
def sPutU (K : PySem.W.Frag) (w : World) (td ty tv : TE) : TS := fun D σ H => tv σ H fun v H1 => td σ H1 fun x H2 => ty σ H2 fun y H3 => ∃ a H4, x = .ref a ∧ ((DPut H3 a y v H4 ∧ D.nx σ H4) ∨ (DPutN K w H3 a y v H4 ∧ ((a == sysModules) = false → D.nx σ H4)))
theorem ps_putU {o i value : Expr} {td ty tv : TE} {pos pos' : Pos} (hu : X.A.units + 64 < cLine) (ho : PE X o td) (hi : PE X i ty) (hv : PE X value tv) (hs : swapsWith value (some (.Subscript o i pos')) pos.line X.env = pure false) :
    PS X (.Assign [.Subscript o i pos'] value pos) (sPutU X.K X.w td ty tv) := by
  refine ⟨fun pins s σ H D I h => wpAny_Assign_Subscript (thn (hv.run pins s σ H _ I h) fun r s1 ⟨v, H1, I1, rv, q1⟩ => ?_) hs⟩
  refine thn (ho.run pins s1 σ H1 _ I1 q1) fun u s2 ⟨x, H2, I2, rx, q2⟩ => thn (hi.run pins s2 σ H2 _ I2 q2) fun iv s3 ⟨y, H3, I3, ry, a, H4, ex, g⟩ => ?_
  subst ex
  obtain rfl : u = Value.ref a := rx
  rcases g with ⟨g, q3⟩ | ⟨g, q3⟩
  · exact d_setItem (by omega) I3 g ry rv fun s4 I4 => ⟨σ, H4, I4, q3⟩
  · exact dn_setItem hu I3 g ry rv fun s4 I4 => ⟨σ, H4, I4, q3 (g.nsys I3)⟩
/-- len of a dict of any kind -/
def rLenU (K : PySem.W.Frag) : List L2.V → Hp → VK → Prop := fun xs H Q => ∃ a n, xs = [V.ref a] ∧ ((∃ kvs, Rd H a (.dK kvs) ∧ n = kvs.length) ∨ (∃ kvs, Rd H a (.dT kvs) ∧ n = kvs.length) ∨ ∃ w kvs, H a = some (DN w a kvs) ∧ DnOk a kvs ∧ (∀ p ∈ kvs, Dp K H (.ref p.2.1) (py p.1)) ∧ n = kvs.length) ∧ Q (.int n) H
theorem lenH {pins : List (Addr × Obj)} {σ : L2.St} {H : Hp} {s : Shared} {κ : Type} [DecidableEq κ] {knd : HeapKind X.prog X.w κ} {a : Addr} {xs : List (κ × Addr × Value)} {Q : VK} (I : Inv X pins σ H s) (hs : (a == sysModules) = false) (d : s.heap.DictOfH knd a xs) (hl : xs.length ≤ sizeLine) (q : Q (.int xs.length) H) :
    wpAny (model X.prog X.w) X.A (call (.builtin "len") [.ref a]) (EP X pins σ Q) X.xe s := by
  have hm : s.heap.DictKeyed knd a (xs.map fun x => (x.1, x.2.2)) := ⟨xs, d, rfl⟩
  refine PyProof.Rows.call_len_slot (n := xs.length) hm.typeIs F.slot_dict_len (fun Q' hq => len_keyed hs hm ?_) (by omega) (by rw [sizeLine_eq] at hl; omega) ?_
  · simp only [List.length_map]
    exact hq
  · exact ⟨.int xs.length, H, I.tok _, ⟨_, rfl⟩, q⟩
theorem cr_lenU : CallR X (.builtin "len") (rLenU X.K) := by
  intro pins s σ H xs us Q I r h
  obtain ⟨a, n, rfl, h, q⟩ := h
  obtain ⟨u, rfl, ru⟩ := vals1 r
  cases ru
  rcases h with ⟨kvs, e, rfl⟩ | ⟨kvs, e, rfl⟩ | ⟨w, kvs, e, ok, ds, rfl⟩
  · exact d_len I e fun t s' I' => ⟨.int kvs.length, H, I', ⟨t, rfl⟩, q⟩
  · obtain ⟨z, hd, xs, rel, dd⟩ := dt_rd I.hok e
    have := Paired.length rel
    exact lenH I hd dd (by omega) (by rw [← this]; exact q)
  · obtain ⟨xs, r, d⟩ := dn_of I e ok ds
    have := Paired.length r
    have := ok.len
    exact lenH I ok.nsys d (by omega) (by rw [← Paired.length r]; exact q)
end
end TS

set_option maxRecDepth 100000
/-! sorted, of tuples. -/
namespace TS
open PySem PySem.Spec PyProof.Rows L2 PySem.W
def leP (a b : L2.V × D) : Bool := dataLe false (fun b : L2.V × D => py b.2) a b
/-! ### an empty tuple first: the sort asks each item itself -/
/-- an empty tuple first, all of them tuples -/
def TupsE (ds : List PyData) : Prop := (∃ r, ds = .tuple [] :: r) ∧ ∀ d ∈ ds, ∃ xs, d = .tuple xs
section
variable {prog : Program} {w : World} {A : Around} {E : Value → Shared → Prop} {s : Shared}
theorem call_tupleLt {Q : Value → Shared → Prop} {l b : Addr} {items items2 : Array Value} {e r : Nat → Bool} (hl : s.heap.IsTuple l items) (hb : s.heap.IsTuple b items2)
    (he : ∀ j (h1 : j < items.size) (h2 : j < items2.size), PySem.SeqAt.EqAt A.in1 s items[j] items2[j] (e j)) (hr : ∀ j (h1 : j < items.size) (h2 : j < items2.size), e j = false → PySem.SeqAt.RcLt A.in1 s items[j] items2[j] (r j))
    (h : Q (.bool (PySem.SeqAt.firstLt e r (decide (items.size < items2.size)) (List.range (min items.size items2.size)))) s) : wpAny (model prog w) A (call (.builtin "tuple.__lt__") [.ref l, .ref b]) Q E s := by
  obtain ⟨⟨cls, dd, data, sl⟩, ho, hc, n, hd⟩ := id hl
  obtain ⟨⟨cls2, dd2, data2, sl2⟩, ho2, hc2, n2, hd2⟩ := id hb
  simp only at hc hd hc2 hd2
  subst hc hd hc2 hd2
  exact call_meets F.slot_tuple_lt ⟨_, ho, rfl⟩ F.entry_tuple_lt (F.args_tuple_lt_2 _ _) (PySem.SeqAt.tuple_ltAt l b items items2 n n2 dd dd2 sl sl2 e r) ⟨ho, ho2, he, hr, h⟩
theorem oneLt_tups {xs ys : List PyData} {a b : Value} {as bs : List Addr} {Q : Bool → Shared → Prop} (ra : Reads s.heap a (.tuple xs) as) (rb : Reads s.heap b (.tuple ys) bs) (h : alike (.tuple xs) (.tuple ys) = true)
    (hu : A.units + min (PyData.depth (.tuple xs)) (PyData.depth (.tuple ys)) < cLine) (hq : Q (dataLt (.tuple xs) (.tuple ys)) s) : wpAny (model prog w) A (oneLt' true a b) Q E s := by
  have hal : alikeAll xs ys = true := by simpa [alike] using h
  cases ra with
  | @tuple l o vs n _ as1 h1 h2 h3 h4 =>
    cases rb with
    | @tuple l' o' vs' n' _ bs1 k1 k2 k3 k4 =>
      have n1 : vs.size = xs.length := by simpa using PySem.SeqAt.ReadsAll.length _ _ _ h4
      have n2 : vs'.size = ys.length := by simpa using PySem.SeqAt.ReadsAll.length _ _ _ k4
      rw [dataLt_tuple, ← firstLt_toks xs ys hal, ← n1, ← n2] at hq
      rw [oneLt'_eq]
      simp only [if_true]
      refine wpAny_bind (wpAny_cRoomFor (PySem.SeqAt.room_here hu) ?_)
      refine wpAny_bind (wpAny_callSpecialIfBound?_slot (T := "tuple") ⟨_, h1, h2⟩ F.slot_tuple_lt (call_tupleLt (e := PySem.SeqAt.pairEq xs ys) (r := fun j => dataLt (xs.getD j .none) (ys.getD j .none)) ⟨_, h1, h2, _, h3⟩ ⟨_, k1, k2, _, k3⟩ (fun j j1 j2 => ?_) (fun j j1 j2 hj => ?_) ?_))
      · have := eqAt_alikeAll xs ys A.in1 s vs.toList vs'.toList _ _ h4 k4 hal (PySem.SeqAt.room_in hu) j (by simpa using j1) (by simpa using j2)
        simpa using this
      · have := rcLt_alikeAll xs ys A.in1 s vs.toList vs'.toList _ _ h4 k4 hal (PySem.SeqAt.room_in hu) j (by simpa using j1) (by simpa using j2) hj
        simpa using this
      · exact wpAny_truthy_bool hq
theorem first_tups : ∀ {vs : List Value} {ds : List PyData} {Q : List (Option Value) → Shared → Prop}, EachIs (fun v d => ∃ as, Reads s.heap v d as) vs ds → (∀ d ∈ ds, ∃ xs, d = .tuple xs) → (∀ os, Q os s) → wpAny (model prog w) A (vs.mapM firstOfTuple') Q E s
  | _, _, Q, .nil, _, h => by rw [List.mapM_nil]; exact wpAny_pure (h _)
  | _, _, Q, .cons (a := v) (as := vs) (b := d) ⟨as, r⟩ t, ht, h => by
    obtain ⟨xs, rfl⟩ := ht d (List.mem_cons_self ..)
    rw [List.mapM_cons]
    refine wpAny_bind ?_
    rw [kas_first_eq]
    cases r with
    | @tuple a o vs' n _ _ ho hc hd hr =>
      refine wpAny_bind (Looks.here (show Looks _ s.heap (typeOf (.ref a)) o.cls from (Looks.ld ho).andThen .now) ?_)
      rw [hc, if_neg (by first | decide | simp)]
      refine wpAny_bind (listItems_at ho hd (wpAny_pure ?_))
      exact wpAny_bind (first_tups t (fun d hd => ht d (List.mem_cons_of_mem _ hd)) fun os => wpAny_pure (h _))
theorem kindE {vs : List Value} {ds : List PyData} {Q : SortKind → Shared → Prop} (e : EachIs (fun v d => ∃ as, Reads s.heap v d as) vs ds) (ht : TupsE ds) (h2 : 2 ≤ vs.length) (h : Q oneType' s) : wpAny (model prog w) A (keyKind' vs.toArray) Q E s := by
  obtain ⟨⟨r, rfl⟩, hta⟩ := ht
  cases e with
  | @cons v _ vs' _ rd t =>
    obtain ⟨as, rd⟩ := rd
    have hT : ∀ v' ∈ v :: vs', Looks (model prog w) s.heap (typeOf v') (Value.type "tuple") := by
      intro v' hv'
      obtain ⟨d, hd, as', rd'⟩ := (EachIs.cons ⟨as, rd⟩ t : EachIs (fun v d => ∃ as, Reads s.heap v d as) (v :: vs') (.tuple [] :: r)).left v' hv'
      obtain ⟨xs, rfl⟩ := hta d hd
      exact looks_reads rd'
    rw [keyKind'_eq, List.mapM_toArray, map_eq_pure_bind, List.mapM_cons]
    have hq : ∀ os : List (Option Value), wpAny (model prog w) A (do
        if (none :: os).toArray.all (·.isSome) then
          rule "list.sort.keys-are-tuples"
          return tuples' ((← oneTypeOnly' ((none :: os).toArray.filterMap id)).any (· != .type "tuple"))
        if ((none :: os).toArray[0]?.bind id).isSome then return general'
        return if (← oneTypeOnly' (v :: vs').toArray).isSome then oneType' else general') Q E s := by
      intro os
      rw [if_neg (by simp), if_neg (by simp)]
      rw [oneTypeOnly'_eq, List.mapM_toArray, map_eq_pure_bind]
      refine wpAny_bind (wpAny_bind (wpAny_bind (kas_mapM (r := Value.type "tuple") _ (fun v' hv' Q' hq => (hT v' hv').here hq) (wpAny_pure ?_))))
      have hall : ((List.map (fun _ => Value.type "tuple") (v :: vs')).toArray.all fun x => x == Value.type "tuple") = true := by
        simp only [List.all_toArray, List.all_map, List.all_eq_true]
        intro _ _
        exact beq_self_eq_true _
      have h0 : (List.map (fun _ => Value.type "tuple") (v :: vs')).toArray[0]? = some (Value.type "tuple") := by simp
      rw [h0]
      simp only [hall, if_true]
      exact wpAny_pure (wpAny_pure h)
    refine wpAny_bind (wpAny_bind (wpAny_bind ?_))
    rw [kas_first_eq]
    cases rd with
    | @tuple a o xs n _ _ ho hc hd hr =>
      refine wpAny_bind (Looks.here (show Looks _ s.heap (typeOf (.ref a)) o.cls from (Looks.ld ho).andThen .now) ?_)
      rw [hc, if_neg (by first | decide | simp)]
      refine wpAny_bind (listItems_at ho hd (wpAny_pure ?_))
      have hx : xs[0]? = none := by
        have := PySem.SeqAt.ReadsAll.length _ _ _ hr
        simp at this
        rw [this]; rfl
      rw [hx]
      exact wpAny_bind (first_tups t (fun d hd => hta d (List.mem_cons_of_mem _ hd)) fun os => wpAny_pure (wpAny_pure (hq os)))
theorem sortsE {vs : List Value} {ds : List PyData} (e : EachIs (fun v d => ∃ as, Reads s.heap v d as) vs ds) (hal : AllAlike ds) (ht : TupsE ds) (hu : ∀ d, d ∈ ds → A.units + d.depth < cLine) : SortsAt prog w A s (dataKind s.heap ds) vs := by
  refine ⟨fun v hv => ?_, oneType', ?_, fun h2 E Q hq => kindE e ht h2 hq⟩
  · obtain ⟨d, hd, as, r⟩ := e.left v hv
    exact ⟨_, dataKind_some hal hd r⟩
  · intro E x y a b Q ha hb hq
    obtain ⟨d, as, hd, ra, rfl⟩ := dataKind_inv ha
    obtain ⟨d', as', hd', rb, rfl⟩ := dataKind_inv hb
    obtain ⟨xs, rfl⟩ := ht.2 d hd
    obtain ⟨ys, rfl⟩ := ht.2 d' hd'
    rw [keyLt'_oneType]
    exact oneLt_tups ra rb (hal _ hd _ hd') (Nat.lt_of_le_of_lt (Nat.add_le_add_left (Nat.min_le_left _ _) _) (hu _ hd)) hq
theorem sorted_dataE {β : Type} {vs : List Value} {bs : List β} {enc : β → PyData} {R : Value → β → Prop} {l : Addr} {Q : Value → Shared → Prop} (hl : s.heap.IsList l vs.toArray) (e : EachIs R vs bs) (er : EachIs (fun v b => ∃ as, Reads s.heap v (enc b) as) vs bs) (hal : AllAlike (bs.map enc)) (hk : TupsE (bs.map enc)) (hL : bs.length ≤ sizeLine)
    (hu : ∀ b, b ∈ bs → A.units + 2 + (enc b).depth < cLine) (h : ∀ out, out.length = bs.length → EachIs R out (bs.mergeSort (dataLe false enc)) → Q (.ref (s.heap.objs.size + 1)) { s with heap := sortedAll s.heap vs (List.toArray out) }) :
    wpAny (model prog w) A (call (.builtin "sorted") [.ref l]) Q E s := by
  have er' : EachIs (fun v b => ∃ as, Reads (sortingHeap (copyHeap s.heap vs) (s.heap.objs.size + 1) vs) v (enc b) as) vs bs := er.mono fun _ _ ⟨as, r⟩ => ⟨as, PyProof.Rows.Reads.keeps (fun _ _ => sorting_copy_old) r⟩
  exact sorted_vals hl (sortsE (s := { s with heap := sortingHeap (copyHeap s.heap vs) (s.heap.objs.size + 1) vs }) (each_map (R := fun v d => ∃ as, Reads (sortingHeap (copyHeap s.heap vs) (s.heap.objs.size + 1) vs) v d as) enc er') hal hk (bound_map hu)) (by rw [e.length]; exact hL)
    (h _ (by rw [sortVals_length false rfl]; exact e.length) (sortVals_data false e er' hal))
end
def rSortData (K : PySem.W.Frag) : List L2.V → Hp → VK → Prop := fun vs H Q => ∃ (a : Addr) (xs : List L2.V) (ds : List D), vs = [.ref a] ∧ SqL K H a xs ∧ xs.length = ds.length ∧ DpAll K H xs (pys ds) ∧ AllAlike (ds.map py) ∧ (Sortable (ds.map py) ∨ TupsE (ds.map py)) ∧ (∀ d ∈ ds, (py d).depth ≤ 12) ∧
  ∀ p, H p = none → Q (.ref p) (upd H p (.lst (((xs.zip ds).mergeSort leP).map (·.1))))
section
variable {X : Cx}
theorem each_zip {H : Hp} {pins : List (Addr × Obj)} {σ : L2.St} {s : Shared} (I : Inv X pins σ H s) : ∀ {xs : List L2.V} {us : List Value} {ds : List D}, Vals xs us → xs.length = ds.length → DpAll X.K H xs (pys ds) →
    EachIs (fun u (b : L2.V × D) => RelV b.1 u) us (xs.zip ds) ∧ EachIs (fun u (b : L2.V × D) => ∃ as, Reads s.heap u (py b.2) as) us (xs.zip ds)
  | [], _, [], r, _, _ => by cases r; exact ⟨.nil, .nil⟩
  | x :: xs, _, d :: ds, r, hl, h => by
    cases r with
    | cons r t =>
      simp only [pys] at h
      cases h with
      | cons h1 h2 =>
        obtain ⟨e1, e2⟩ := each_zip I t (by simpa using hl) h2
        exact ⟨.cons r e1, .cons (Dp.reads I _ _ _ h1 r) e2⟩
  | [], _, _ :: _, _, hl, _ => by simp at hl
  | _ :: _, _, [], _, hl, _ => by simp at hl
theorem each_vals : ∀ {us : List Value} {bs : List (L2.V × D)}, EachIs (fun u (b : L2.V × D) => RelV b.1 u) us bs → Vals (bs.map (·.1)) us
  | _, _, .nil => .nil
  | _, _, .cons h t => .cons h (each_vals t)
theorem zip_py : ∀ {xs : List L2.V} {ds : List D}, xs.length = ds.length → (xs.zip ds).map (fun b => py b.2) = ds.map py
  | [], [], _ => rfl
  | x :: xs, d :: ds, h => by simp [zip_py (xs := xs) (ds := ds) (by simpa using h)]
  | [], _ :: _, h => by simp at h
  | _ :: _, [], h => by simp at h
theorem cr_sortedData (hu : X.A.units + 64 < cLine) : CallR X (.builtin "sorted") (rSortData X.K) := by
  intro pins s σ H vs us Q I r h
  obtain ⟨a, xs, ds, rfl, hs, hl, hd, hal, hk, hdp, q⟩ := h
  obtain ⟨its, rv, pl, hz⟩ := I.list hs
  obtain ⟨u, rfl, ru⟩ := vals1 r
  obtain rfl : u = Value.ref a := ru
  obtain ⟨e1, e2⟩ := each_zip I rv hl hd
  have hzl : (xs.zip ds).length ≤ sizeLine := by rw [List.length_zip, ← hl, Nat.min_self]; exact hz
  have fin : ∀ out : List Value, out.length = (xs.zip ds).length → EachIs (fun u (b : L2.V × D) => RelV b.1 u) out ((xs.zip ds).mergeSort (dataLe false fun b : L2.V × D => py b.2)) → EP X pins σ Q (.ref (s.heap.objs.size + 1)) { s with heap := sortedAll s.heap its (List.toArray out) } := by
    intro out ho hx
    obtain ⟨e, he⟩ := sortedAll_at s.heap its out.toArray
    have hn : H (s.heap.objs.size + 1) = none := I.hok.fresh (by omega)
    refine ⟨.ref (s.heap.objs.size + 1), _, I.laid (t' := s.toks) (o := .lst (((xs.zip ds).mergeSort leP).map (·.1))) (fun b u hb => sortedAll_old hb) (by omega) ?_, rfl, q _ hn⟩
    refine ⟨?_, out, e, each_vals hx, he⟩
    rw [List.length_map, List.length_mergeSort]
    exact hzl
  rcases hk with hk | hk
  · exact sorted_data (enc := fun b : L2.V × D => py b.2) (bs := xs.zip ds) pl.isList e1 e2 (by rw [zip_py hl]; exact hal) (by rw [zip_py hl]; exact hk) hzl (fun b hb => by
      have := hdp b.2 (List.of_mem_zip hb).2
      omega) fin
  · exact sorted_dataE (enc := fun b : L2.V × D => py b.2) (bs := xs.zip ds) pl.isList e1 e2 (by rw [zip_py hl]; exact hal) (by rw [zip_py hl]; exact hk) hzl (fun b hb => by
      have := hdp b.2 (List.of_mem_zip hb).2
      omega) fin
end
end TS

set_option maxRecDepth 100000
/-! Dicts read; items; built-ins; methods of lists. -/
namespace TS
open PySem PySem.Spec PyProof.Rows L2
section
variable {N : Nm} {K : PySem.W.Frag} {T : List (Addr × Str)} {L L' : Loc} {H H' : Hp} {s : Sto}
/-! ### keys -/
theorem kD_inj {a b : Key} (h : kD a = kD b) : a = b := by
  cases a <;> cases b <;> simp [kD] at h <;> rw [h]
theorem kDs_inj : ∀ {a b : List Key}, a.map kD = b.map kD → a = b
  | [], [], _ => rfl
  | [], _ :: _, h => by simp at h
  | _ :: _, [], h => by simp at h
  | x :: xs, y :: ys, h => by
    simp only [List.map_cons, List.cons.injEq] at h
    rw [kD_inj h.1, kDs_inj h.2]
theorem kT_inj {a b : List Key} (h : kT a = kT b) : a = b := kDs_inj (by simpa [kT] using h)
theorem key1_ex {d : D} (h : TT.key1 d = true) : ∃ k, d = kD k := by
  cases d <;> simp [TT.key1] at h
  · exact ⟨.inl _, rfl⟩
  · exact ⟨.inr _, rfl⟩
theorem key1s_ex : ∀ {ds : List D}, ds.all TT.key1 = true → ∃ ks : List Key, ds = ks.map kD
  | [], _ => ⟨[], rfl⟩
  | d :: ds, h => by
    simp only [List.all_cons, Bool.and_eq_true] at h
    obtain ⟨k, rfl⟩ := key1_ex h.1
    obtain ⟨ks, rfl⟩ := key1s_ex h.2
    exact ⟨k :: ks, rfl⟩
theorem keyT_ex {d : D} (h : TT.keyT d = true) : ∃ ks : List Key, d = kT ks := by
  cases d <;> simp [TT.keyT] at h
  obtain ⟨ks, rfl⟩ := key1s_ex (ds := _) (List.all_eq_true.mpr h)
  exact ⟨ks, rfl⟩
theorem RepD.kV_inv {v : L2.V} {k : Key} (r : RepD N K L H v (kD k)) : v = kV k := by
  cases k with
  | inl i => exact RepD.int_inv r
  | inr x => exact RepD.str_inv r
theorem RepDs.kV_inv : ∀ {ks : List Key} {vs : List L2.V}, RepDs N K L H vs (ks.map kD) → vs = ks.map kV
  | [], _, r => by cases r; rfl
  | k :: ks, _, r => by
    cases r with
    | cons r t => rw [RepD.kV_inv r, RepDs.kV_inv t]; rfl
theorem RepD.kT_inv {v : L2.V} {ks : List Key} (r : RepD N K L H v (kT ks)) : ∃ b, v = .ref b ∧ H b = some (.tup (ks.map kV)) := by
  obtain ⟨a, xs, rfl, h, t⟩ := RepD.tup_inv r
  exact ⟨a, rfl, by rw [h.2, RepDs.kV_inv t]⟩
/-- what is found by a key -/
theorem look_val {κ : Type} [DecidableEq κ] {f : κ → D} (inj : ∀ a b, f a = f b → a = b) {k : κ} : ∀ {kvs : List (κ × L2.V)} {vs : List D}, RepDs N K L H (kvs.map (·.2)) vs →
    (match TT.look (f k) (kvs.map fun p => f p.1) vs with
      | some d => ∃ v, valV kvs k = some v ∧ RepD N K L H v d
      | none => valV kvs k = none)
  | [], vs, r => by simp [TT.look, valV_nil]
  | p :: r, vs, h => by
    cases h with
    | cons h t =>
      rename_i d ds
      simp only [List.map_cons, TT.look]
      by_cases e : p.1 = k
      · rw [if_pos (by rw [e])]
        exact ⟨p.2, valV_pos e, h⟩
      · rw [if_neg (fun q => e (inj _ _ q)), valV_neg e]
        exact look_val inj t
theorem mem_val {κ : Type} [DecidableEq κ] {f : κ → D} (inj : ∀ a b, f a = f b → a = b) {k : κ} (kvs : List (κ × L2.V)) : (valV kvs k).isSome = decide (f k ∈ kvs.map fun p => f p.1) := by
  rw [← valV_any]
  induction kvs with
  | nil => simp
  | cons p r ih =>
    simp only [List.any_cons, ih, List.map_cons, List.mem_cons, Bool.decide_or]
    congr 1
    exact decide_eq_decide.mpr ⟨fun q => by rw [q], fun q => inj _ _ q.symm⟩
theorem key1_kn {d : D} (h : TT.key1 d = true) (h' : TT.keyN d = true) : False := by cases d <;> simp [TT.key1, TT.keyN] at h h'
theorem dnAt_mem {k : D} (kvs : List (D × Addr × L2.V)) : (dnAt kvs k).isSome = decide (k ∈ kvs.map (·.1)) := by
  unfold dnAt
  induction kvs with
  | nil => simp
  | cons p r ih =>
    simp only [List.find?_cons, List.map_cons, List.mem_cons]
    by_cases e : p.1 = k
    · simp [e]
    · simp only [decide_eq_false e]
      rw [ih]
      exact decide_eq_decide.mpr ⟨.inr, fun q => q.resolve_left fun z => e z.symm⟩
theorem look_dn {k : D} : ∀ {kvs : List (D × Addr × L2.V)} {vs : List D}, RepDs N K L H (kvs.map (·.2.2)) vs → ∀ d, TT.look k (kvs.map (·.1)) vs = some d → ∃ v, dnAt kvs k = some v ∧ RepD N K L H v d
  | [], _, r, d, h => by cases r; simp [TT.look] at h
  | p :: kvs, _, r, d, h => by
    simp only [List.map_cons] at r h
    cases r with
    | cons r t =>
      simp only [TT.look] at h
      unfold dnAt
      simp only [List.find?_cons]
      by_cases e : p.1 = k
      · rw [if_pos e] at h
        cases h
        exact ⟨p.2.2, by simp [e], r⟩
      · rw [if_neg e] at h
        simp only [decide_eq_false e]
        exact look_dn t d h
theorem keys_dp : ∀ {kvs : List (D × Addr × L2.V)}, (∀ p ∈ kvs, TT.keyN p.1 = true) → RepDs N K L H (kvs.map fun p => .ref p.2.1) (kvs.map (·.1)) → ∀ p ∈ kvs, Dp K H (.ref p.2.1) (py p.1)
  | [], _, _, _, h => by cases h
  | p :: kvs, hk, r, q, h => by
    simp only [List.map_cons] at r
    cases r with
    | cons r t =>
      rcases List.mem_cons.mp h with rfl | h
      · exact RepD.dp false 8 _ _ (kn_pl 8 _ (keyN_kn (hk q (by simp)))) r
      · exact keys_dp (fun p hp => hk p (by simp [hp])) t q h
/-- a dict that is read -/
theorem dctOf_rep {v : L2.V} {w : W} {t : Nat} {ks vs : List D} (z : RelS N K T L H s) (r : RepW N K L H v w) (h : TT.dctOf s w = some (t, ks, vs)) :
    (∃ a kvs, v = .ref a ∧ t = 0 ∧ ks = kvs.map (fun p => kD p.1) ∧ Rd H a (.dK kvs) ∧ RepDs N K L H (kvs.map (·.2)) vs) ∨
    (∃ a kvs, v = .ref a ∧ t = 1 ∧ ks = kvs.map (fun p => kT p.1) ∧ Rd H a (.dT kvs) ∧ RepDs N K L H (kvs.map (·.2)) vs) ∨
    (∃ a, v = .ref a ∧ t = 3 ∧ ks = [] ∧ vs = [] ∧ Rd H a (.dK [])) ∨
    (∃ a w kvs, v = .ref a ∧ t = 2 ∧ ks = kvs.map (·.1) ∧ H a = some (DN w a kvs) ∧ DnOk a kvs ∧ RepDs N K L H (kvs.map fun p => .ref p.2.1) (kvs.map (·.1)) ∧ RepDs N K L H (kvs.map (·.2.2)) vs) := by
  cases w with
  | d x =>
    cases x <;> simp [TT.dctOf] at h
    obtain ⟨rfl, rfl, rfl⟩ := h
    cases r with
    | dK n e r => exact .inl ⟨_, _, rfl, rfl, rfl, e, r⟩
    | dT n e r => exact .inr (.inl ⟨_, _, rfl, rfl, rfl, e, r⟩)
    | d3 n e => exact .inr (.inr (.inl ⟨_, rfl, rfl, rfl, rfl, e⟩))
    | dN n e k rk r => exact .inr (.inr (.inr ⟨_, _, _, rfl, rfl, rfl, e, k, rk, r⟩))
  | loc l =>
    obtain ⟨a, e, rfl⟩ := r
    simp only [TT.dctOf] at h
    split at h
    · rename_i t' ks' vs' e'
      simp only [Option.some.injEq, Prod.mk.injEq] at h
      obtain ⟨rfl, rfl, rfl⟩ := h
      obtain ⟨b, f, _, m⟩ := z.loc e' (fun q => nomatch q)
      rw [e] at f; cases f
      cases m with
      | dK e r => exact .inl ⟨_, _, rfl, rfl, rfl, .inl e, r⟩
      | dT e r => exact .inr (.inl ⟨_, _, rfl, rfl, rfl, .inl e, r⟩)
      | d3 e => exact .inr (.inr (.inl ⟨_, rfl, rfl, rfl, rfl, .inl e⟩))
      | dN e k rk r => exact .inr (.inr (.inr ⟨_, _, _, rfl, rfl, rfl, e, k, rk, r⟩))
    · cases h
theorem RepD.keyN_inv {v : L2.V} {k : D} (hk : TT.keyN k = true) (r : RepD N K L H v k) : ∃ b, v = .ref b ∧ Dp K H (.ref b) (py k) := by
  cases k <;> first | (simp [TT.keyN] at hk; done) | skip
  have h := RepD.dp false 8 _ _ (kn_pl 8 _ (keyN_kn hk)) r
  cases r with
  | tup e r => exact ⟨_, rfl, h⟩
/-- what the dict tells of a key -/
theorem dget_rep {x y : L2.V} {wx : W} {k : D} {t : Nat} {ks vs : List D} (z : RelS N K T L H s) (rx : RepW N K L H x wx) (ry : RepD N K L H y k) (h : TT.dctOf s wx = some (t, ks, vs)) (hk : TT.keysOk t k = true) :
    ∃ a o, x = .ref a ∧ (DGet H a y o ∨ DGetN K H a y o) ∧ o.isSome = decide (k ∈ ks) ∧ ∀ d, TT.look k ks vs = some d → ∃ v, o = some v ∧ RepD N K L H v d := by
  rcases dctOf_rep z rx h with ⟨a, kvs, rfl, rfl, rfl, e, r⟩ | ⟨a, kvs, rfl, rfl, rfl, e, r⟩ | ⟨a, rfl, rfl, rfl, rfl, e⟩ | ⟨a, w, kvs, rfl, rfl, rfl, e, ok, rk, r⟩
  · obtain ⟨q, rfl⟩ := key1_ex (by simpa [TT.keysOk] using hk)
    refine ⟨a, valV kvs q, rfl, .inl (.inl ⟨kvs, q, e, RepD.kV_inv ry, rfl⟩), mem_val (fun _ _ => kD_inj) kvs, fun d hd => ?_⟩
    have := look_val (k := q) (f := kD) (fun _ _ => kD_inj) r
    rw [hd] at this
    exact this
  · obtain ⟨q, rfl⟩ := keyT_ex (by simpa [TT.keysOk] using hk)
    obtain ⟨b, rfl, hb⟩ := RepD.kT_inv ry
    refine ⟨a, valV kvs q, rfl, .inl (.inr ⟨kvs, q, b, e, rfl, hb, rfl⟩), mem_val (fun _ _ => kT_inj) kvs, fun d hd => ?_⟩
    have := look_val (k := q) (f := kT) (fun _ _ => kT_inj) r
    rw [hd] at this
    exact this
  · simp only [TT.keysOk, Bool.or_eq_true] at hk
    rcases hk with hk | hk
    · obtain ⟨q, rfl⟩ := key1_ex hk
      exact ⟨a, none, rfl, .inl (.inl ⟨[], q, e, RepD.kV_inv ry, rfl⟩), by simp, fun d hd => by simp [TT.look] at hd⟩
    · obtain ⟨b, rfl, hb⟩ := RepD.keyN_inv hk ry
      exact ⟨a, none, rfl, .inr ⟨b, k, rfl, hk, hb, .inr ⟨e, rfl⟩⟩, by simp, fun d hd => by simp [TT.look] at hd⟩
  · have hk' : TT.keyN k = true := by simpa [TT.keysOk] using hk
    obtain ⟨b, rfl, hb⟩ := RepD.keyN_inv hk' ry
    exact ⟨a, dnAt kvs k, rfl, .inr ⟨b, k, rfl, hk', hb, .inl ⟨w, kvs, e, ok, keys_dp ok.key rk, rfl⟩⟩, dnAt_mem kvs, fun d hd => look_dn r d hd⟩
theorem ints_rep : ∀ {ds : List D} {xs : List L2.V} {ns : List Int}, RepDs N K L H xs ds → TT.dInts ds = some ns → xs = ns.map V.int
  | [], _, ns, r, h => by cases r; cases h; rfl
  | d :: ds, _, ns, r, h => by
    cases r with
    | cons r t =>
      cases d <;> simp [TT.dInts] at h
      obtain ⟨ms, h1, rfl⟩ := h
      rw [RepD.int_inv r, ints_rep t h1]; rfl
theorem bls_rep : ∀ {ds : List D} {xs : List L2.V} {ns : List Bool}, RepDs N K L H xs ds → TT.bls ds = some ns → xs = ns.map V.bl
  | [], _, ns, r, h => by cases r; cases h; rfl
  | d :: ds, _, ns, r, h => by
    cases r with
    | cons r t =>
      cases d <;> simp [TT.bls] at h
      obtain ⟨ms, h1, rfl⟩ := h
      rw [RepD.bl_inv r, bls_rep t h1]; rfl
/-! ### items -/
theorem ix_len (n : Nat) (i : Int) : TT.ixOf n i = ixN n i := rfl
theorem at_len {α : Type} (xs : List α) (i : Int) : TT.atI xs i = atI xs i := rfl
theorem atI_rep {xs : List L2.V} {ds : List D} {i : Int} {d : D} (r : RepDs N K L H xs ds) (h : TT.atI ds i = some d) : ∃ v, atI xs i = some v ∧ RepD N K L H v d := by
  unfold TT.atI at h
  cases e : TT.ixOf ds.length i with
  | none => rw [e] at h; simp at h
  | some j =>
    rw [e] at h
    obtain ⟨v, h1, h2⟩ := r.get (i := j) (by simpa using h)
    refine ⟨v, ?_, h2⟩
    unfold atI
    rw [r.len, ← ix_len, e]
    exact h1
end
/-- a call of a built-in with one thing, with two -/
def Snd1c (N : Nm) (X : Cx) (T : List (Addr × Str)) (f : Value) (g : W → Sto → TT.R TT.Vl) : Prop :=
  ∃ r, CallR X f r ∧ ∀ (fz : Bool) (L : Loc) (H : Hp) (s : Sto) (x : L2.V) (wx : W) (Q : VK) (er : Nat → Hp → Prop), RelS N X.K T L H s → RepW N X.K L H x wx →
    Out N X.K T L H (okW N X.K Q) er ((g wx s).bind (TT.fin fz)) → r [x] H Q
def Snd2c (N : Nm) (X : Cx) (T : List (Addr × Str)) (f : Value) (g : W → W → Sto → TT.R TT.Vl) : Prop :=
  ∃ r, CallR X f r ∧ ∀ (fz : Bool) (L : Loc) (H : Hp) (s : Sto) (x y : L2.V) (wx wy : W) (Q : VK) (er : Nat → Hp → Prop), RelS N X.K T L H s → RepW N X.K L H x wx → RepW N X.K L H y wy →
    Out N X.K T L H (okW N X.K Q) er ((g wx wy s).bind (TT.fin fz)) → r [x, y] H Q
/-- a method of a built-in type, with no, with one argument -/
def SndM (N : Nm) (X : Cx) (T : List (Addr × Str)) (id : String) (g : W → List W → Sto → TT.R TT.Vl) : Prop :=
  ∃ r, MtR X id r ∧ ∀ (fz : Bool) (L : Loc) (H : Hp) (s : Sto) (x : L2.V) (xs : List L2.V) (wx : W) (ws : List W) (Q : VK) (er : Nat → Hp → Prop), RelS N X.K T L H s → RepW N X.K L H x wx → RepWs N X.K L H xs ws →
    Out N X.K T L H (okW N X.K Q) er ((g wx ws s).bind (TT.fin fz)) → r x xs H Q
def SndI (N : Nm) (X : Cx) (T : List (Addr × Str)) (g : W → W → Sto → TT.R TT.Vl) : Prop :=
  ∃ r : R2, IxR X r ∧ ∀ (fz : Bool) (L : Loc) (H : Hp) (s : Sto) (x y : L2.V) (wx wy : W) (Q : VK) (er : Nat → Hp → Prop), RelS N X.K T L H s → RepW N X.K L H x wx → RepW N X.K L H y wy →
    Out N X.K T L H (okW N X.K Q) er ((g wx wy s).bind (TT.fin fz)) → r x y H Q
section
variable {N : Nm} {X : Cx} {T : List (Addr × Str)}
/-! ### in, not in a dict; a sign in a text -/
theorem OpR.or {f : Value → Value → Sem Value} {r r' : R2} (h : OpR X f r) (h' : OpR X f r') : OpR X f (fun x y H Q => r x y H Q ∨ r' x y H Q) := by
  intro pins s σ H x y v u Q I rx ry q
  rcases q with q | q
  · exact h pins s σ H x y v u Q I rx ry q
  · exact h' pins s σ H x y v u Q I rx ry q
def rInDK (neg : Bool) : R2 := fun y x H Q => ∃ a o, x = .ref a ∧ DGet H a y o ∧ Q (.bl (if neg then !o.isSome else o.isSome)) H
def rInDc (K : PySem.W.Frag) (neg : Bool) : R2 := fun y x H Q => rInDK neg y x H Q ∨ rInN K neg y x H Q
theorem op_inDK (hu : X.A.units + 64 < cLine) : OpR X (compareOp .In) (rInDK false) := by
  intro pins s σ H y x u v Q I ry rx h
  obtain ⟨a, o, rfl, g, q⟩ := h
  cases rx
  exact d_in (by omega) I g ry fun s' I' => ⟨.bl _, H, I', rfl, q⟩
theorem op_ninDK (hu : X.A.units + 64 < cLine) : OpR X (compareOp .NotIn) (rInDK true) := by
  intro pins s σ H y x u v Q I ry rx h
  obtain ⟨a, o, rfl, g, q⟩ := h
  cases rx
  exact d_notIn (by omega) I g ry fun s' I' => ⟨.bl _, H, I', rfl, q⟩
theorem op_inDc (hu : X.A.units + 64 < cLine) : OpR X (compareOp .In) (rInDc X.K false) := OpR.or (op_inDK hu) (op_inN hu)
theorem op_ninDc (hu : X.A.units + 64 < cLine) : OpR X (compareOp .NotIn) (rInDc X.K true) := OpR.or (op_ninDK hu) (op_ninN hu)
theorem inDc_snd {neg fz : Bool} {L : Loc} {H : Hp} {s : Sto} {x y : L2.V} {wx wy : W} {Q : VK} {er : Nat → Hp → Prop} (z : RelS N X.K T L H s) (rx : RepW N X.K L H x wx) (ry : RepW N X.K L H y wy)
    (o : Out N X.K T L H (okW N X.K Q) er ((TT.inDc neg wx wy s).bind (TT.fin fz))) : rInDc X.K neg x y H Q := by
  unfold TT.inDc at o
  split at o
  · rename_i a t ks vs e
    split at o
    · rename_i hk
      obtain ⟨b, ov, rfl, g, m, _⟩ := dget_rep z ry rx e hk
      have o' := fin_bl z o
      rw [← m] at o'
      rcases g with g | g
      · exact .inl ⟨b, ov, rfl, g, o'⟩
      · exact .inr ⟨b, ov, rfl, g, o'⟩
    · exact no_out o
  · exact no_out o
theorem snd_inD (hu : X.A.units + 64 < cLine) : Snd2 N X T (compareOp .In) (fun x y s => TT.opSem .inD [x, y] s) :=
  ⟨_, op_inDc hu, fun fz L H s x y wx wy Q er z rx ry o => inDc_snd z rx ry o⟩
theorem snd_ninD (hu : X.A.units + 64 < cLine) : Snd2 N X T (compareOp .NotIn) (fun x y s => TT.opSem .ninD [x, y] s) :=
  ⟨_, op_ninDc hu, fun fz L H s x y wx wy Q er z rx ry o => inDc_snd z rx ry o⟩
theorem str_one {x : Str} {c : Nat} (h : x.cps.toList = [c]) : x = ⟨#[c]⟩ := by
  obtain ⟨a⟩ := x
  have : a = #[c] := by
    apply Array.ext'
    simpa using h
  rw [this]
theorem snd_inT : Snd2 N X T (compareOp .In) (fun x y s => TT.opSem .inT [x, y] s) := by
  refine ⟨_, op_in_sign, fun fz L H s x y wx wy Q er z rx ry o => ?_⟩
  simp only [TT.opSem] at o
  unfold TT.inTx at o
  split at o
  · split at o
    · rename_i c e
      refine ⟨c, _, ?_, RepD.str_inv ry, fin_bl z o⟩
      rw [RepD.str_inv rx, str_one e]
    · exact no_out o
  · exact no_out o
theorem snd_ninT : Snd2 N X T (compareOp .NotIn) (fun x y s => TT.opSem .ninT [x, y] s) := by
  refine ⟨_, op_notIn_sign, fun fz L H s x y wx wy Q er z rx ry o => ?_⟩
  simp only [TT.opSem] at o
  unfold TT.inTx at o
  split at o
  · split at o
    · rename_i c e
      refine ⟨c, _, ?_, RepD.str_inv ry, fin_bl z o⟩
      rw [RepD.str_inv rx, str_one e]
    · exact no_out o
  · exact no_out o
/-! ### items -/
theorem snd_ix : SndI N X T (fun x y s => TT.opSem .ix [x, y] s) := by
  refine ⟨_, ix_seq, fun fz L H s x y wx wy Q er z rx ry o => ?_⟩
  simp only [TT.opSem] at o
  unfold TT.ixS at o
  split at o
  · rename_i zz i
    split at o
    · rename_i hs
      cases e : TT.atI zz.cps.toList i with
      | none => rw [e] at o; exact no_out o
      | some c =>
        rw [e] at o
        have := small_le hs
        exact .inr (.inr ⟨zz, i, c, RepD.str_inv rx, RepD.int_inv ry, by rw [sizeLine_eq]; omega, e, fin_d z o (.str _)⟩)
    · exact no_out o
  · rename_i i _
    split at o
    · rename_i ds e
      cases e2 : TT.atI ds i with
      | none => rw [e2] at o; exact no_out o
      | some d =>
        rw [e2] at o
        obtain ⟨a, xs, rfl, hs, rs⟩ := seqOf_rep z rx e
        obtain ⟨v, h1, h2⟩ := atI_rep rs e2
        rcases hs with hs | hs
        · exact .inl ⟨a, xs, i, v, rfl, RepD.int_inv ry, hs, h1, fin_d z o h2⟩
        · exact .inr (.inl ⟨a, xs, i, v, rfl, RepD.int_inv ry, hs, h1, fin_d z o h2⟩)
    · exact no_out o
  · exact no_out o
/-- d[k] -/
theorem snd_dget (hu : X.A.units + 64 < cLine) : SndI N X T (fun x y s => TT.opSem .dget [x, y] s) := by
  refine ⟨_, (ix_dd hu).or (ix_dn hu), fun fz L H s x y wx wy Q er z rx ry o => ?_⟩
  simp only [TT.opSem] at o
  unfold TT.dgetS at o
  split at o
  · rename_i t ks vs k e
    split at o
    · rename_i hk
      obtain ⟨b, ov, rfl, g, _, m⟩ := dget_rep z rx ry e hk
      cases e2 : TT.look k ks vs with
      | none => rw [e2] at o; exact no_out o
      | some d =>
        rw [e2] at o
        obtain ⟨v, rfl, rv⟩ := m d e2
        rcases g with g | g
        · exact .inl ⟨b, v, rfl, g, fin_d z o rv⟩
        · exact .inr ⟨b, v, rfl, g, fin_d z o rv⟩
    · exact no_out o
  · exact no_out o
theorem snd_lenD : Snd1c N X T (.builtin "len") (fun x s => TT.opSem .lenD [x] s) := by
  refine ⟨_, cr_lenU, fun fz L H s x wx Q er z rx o => ?_⟩
  simp only [TT.opSem] at o
  unfold TT.lenDS at o
  split at o
  · rename_i t ks vs e0
    rcases dctOf_rep z rx e0 with ⟨a, kvs, rfl, rfl, rfl, e, r⟩ | ⟨a, kvs, rfl, rfl, rfl, e, r⟩ | ⟨a, rfl, rfl, rfl, rfl, e⟩ | ⟨a, w, kvs, rfl, rfl, rfl, e, ok, rk, r⟩
    · exact ⟨a, _, rfl, .inl ⟨kvs, e, rfl⟩, by simpa using fin_int z o⟩
    · exact ⟨a, _, rfl, .inr (.inl ⟨kvs, e, rfl⟩), by simpa using fin_int z o⟩
    · exact ⟨a, _, rfl, .inl ⟨[], e, rfl⟩, by simpa using fin_int z o⟩
    · exact ⟨a, _, rfl, .inr (.inr ⟨w, kvs, e, ok, keys_dp ok.key rk, rfl⟩), by simpa using fin_int z o⟩
  · exact no_out o
/-! ### built-ins -/
theorem snd_len : Snd1c N X T (.builtin "len") (fun x s => TT.opSem .len [x] s) := by
  refine ⟨_, call_len_str.or call_len_seq, fun fz L H s x wx Q er z rx o => ?_⟩
  simp only [TT.opSem] at o
  unfold TT.lenS at o
  split at o
  · split at o
    · rename_i hs
      have := small_le hs
      exact .inl ⟨_, by rw [RepD.str_inv rx], by rw [sizeLine_eq]; omega, fin_int z o⟩
    · exact no_out o
  · split at o
    · rename_i ds e
      obtain ⟨a, xs, rfl, hs, rs⟩ := seqOf_rep z rx e
      refine .inr ⟨a, xs, rfl, hs, ?_⟩
      rw [rs.len]
      exact fin_int z o
    · exact no_out o
theorem snd_abs : Snd1c N X T (.builtin "abs") (fun x s => TT.opSem .abs [x] s) := by
  refine ⟨_, call_abs, fun fz L H s x wx Q er z rx o => ?_⟩
  simp only [TT.opSem] at o
  unfold TT.absS at o
  split at o
  · exact ⟨_, by rw [RepD.int_inv rx], fin_int z o⟩
  · exact no_out o
theorem snd_int : Snd1c N X T (.type "int") (fun x s => TT.opSem .int [x] s) := by
  refine ⟨_, call_int1, fun fz L H s x wx Q er z rx o => ?_⟩
  simp only [TT.opSem] at o
  unfold TT.intS at o
  split at o
  · exact .inr ⟨_, by rw [RepD.bl_inv rx], fin_int z o⟩
  · exact .inl ⟨_, by rw [RepD.int_inv rx], fin_int z o⟩
  · exact no_out o
def rSumB (K : PySem.W.Frag) : List L2.V → Hp → VK → Prop := fun vs H Q => ∃ (a : Addr) (ns : List Int), vs = [.ref a] ∧ (SqL K H a (ns.map L2.V.int) ∨ SqT K H a (ns.map L2.V.int)) ∧ Q (.int ns.sum) H
theorem cr_sumB (hc : X.calm = true) : CallR X (.builtin "sum") (rSumB X.K) := by
  intro pins s σ H vs us Q I r h
  obtain ⟨a, ns, rfl, hs | hs, q⟩ := h
  · exact cr_sum hc pins s σ H _ us Q I r ⟨a, ns, rfl, hs, q⟩
  · obtain ⟨its, rv, pl, _⟩ := I.tuple hs
    rw [Vals.ref1 r]
    have hi := rv.ints
    obtain ⟨xs, hx⟩ := hi.allInts.items
    have hn : numsOf its.toArray.toList = ns := by rw [show its.toArray.toList = its from rfl, hi.numsOf]
    rw [hx] at pl hn
    rw [nums_intItems] at hn
    refine PySem.W.ktm_sumG (I.ok.hd hc) pl fun h' tk t' hk => ?_
    rw [preSum_eq, List.take_of_length_le (by simp), hn]
    exact ⟨.int _, H, I.kept hk, ⟨_, rfl⟩, q⟩
theorem snd_sum (hc : X.calm = true) : Snd1c N X T (.builtin "sum") (fun x s => TT.opSem .sum [x] s) := by
  refine ⟨_, cr_sumB hc, fun fz L H s x wx Q er z rx o => ?_⟩
  simp only [TT.opSem] at o
  unfold TT.sumS at o
  split at o
  · rename_i ds e
    cases e2 : TT.dInts ds with
    | none => rw [e2] at o; exact no_out o
    | some ns =>
      rw [e2] at o
      obtain ⟨a, xs, rfl, hs, rs⟩ := seqOf_rep z rx e
      rw [ints_rep rs e2] at hs
      exact ⟨a, ns, rfl, hs, fin_int z o⟩
  · exact no_out o
theorem max_uniq : ∀ {ns : List Int} {n m : Int}, m ∈ n :: ns → (∀ y ∈ n :: ns, y ≤ m) → m = ns.foldl max n
  | [], n, m, h, _ => by simpa using h
  | a :: ns, n, m, h, g => by
    rw [List.foldl_cons]
    refine max_uniq ?_ fun y hy => ?_
    · have h1 := g n (by simp)
      have h2 := g a (by simp)
      simp only [List.mem_cons] at h ⊢
      rcases h with rfl | rfl | h
      · left; omega
      · left; omega
      · exact .inr h
    · rcases List.mem_cons.mp hy with rfl | hy
      · have h1 := g n (by simp)
        have h2 := g a (by simp)
        omega
      · exact g y (by simp [hy])
theorem min_uniq : ∀ {ns : List Int} {n m : Int}, m ∈ n :: ns → (∀ y ∈ n :: ns, m ≤ y) → m = ns.foldl min n
  | [], n, m, h, _ => by simpa using h
  | a :: ns, n, m, h, g => by
    rw [List.foldl_cons]
    refine min_uniq ?_ fun y hy => ?_
    · have h1 := g n (by simp)
      have h2 := g a (by simp)
      simp only [List.mem_cons] at h ⊢
      rcases h with rfl | rfl | h
      · left; omega
      · left; omega
      · exact .inr h
    · rcases List.mem_cons.mp hy with rfl | hy
      · have h1 := g n (by simp)
        have h2 := g a (by simp)
        omega
      · exact g y (by simp [hy])
theorem snd_max1 (hc : X.calm = true) : Snd1c N X T (.builtin "max") (fun x s => TT.opSem .max1 [x] s) := by
  refine ⟨_, cr_max hc, fun fz L H s x wx Q er z rx o => ?_⟩
  simp only [TT.opSem] at o
  unfold TT.maxS at o
  split at o
  · rename_i ds e
    split at o
    · rename_i n ns e2
      obtain ⟨a, xs, rfl, hs, rs⟩ := lstOf_rep z rx e
      rw [ints_rep rs e2] at hs
      refine ⟨a, n :: ns, rfl, hs, by simp, fun m hm hx => ?_⟩
      rw [max_uniq hm hx]
      exact fin_int z o
    · exact no_out o
  · exact no_out o
theorem snd_min1 (hc : X.calm = true) : Snd1c N X T (.builtin "min") (fun x s => TT.opSem .min1 [x] s) := by
  refine ⟨_, cr_min hc, fun fz L H s x wx Q er z rx o => ?_⟩
  simp only [TT.opSem] at o
  unfold TT.minS at o
  split at o
  · rename_i ds e
    split at o
    · rename_i n ns e2
      obtain ⟨a, xs, rfl, hs, rs⟩ := lstOf_rep z rx e
      rw [ints_rep rs e2] at hs
      refine ⟨a, n :: ns, rfl, hs, by simp, fun m hm hx => ?_⟩
      rw [min_uniq hm hx]
      exact fin_int z o
    · exact no_out o
  · exact no_out o
theorem ins1_perm (i : Int) : ∀ l : List Int, (TT.ins1 i l).Perm (i :: l)
  | [] => List.Perm.refl _
  | j :: r => by
    unfold TT.ins1
    split
    · exact List.Perm.refl _
    · exact ((ins1_perm i r).cons j).trans (List.Perm.swap i j r)
theorem isort_perm : ∀ l : List Int, (TT.isort l).Perm l
  | [] => List.Perm.refl _
  | j :: r => (ins1_perm j (TT.isort r)).trans ((isort_perm r).cons j)
theorem ins1_sorted (i : Int) : ∀ l : List Int, l.Pairwise (· ≤ ·) → (TT.ins1 i l).Pairwise (· ≤ ·)
  | [], _ => List.pairwise_singleton _ _
  | j :: r, h => by
    rw [List.pairwise_cons] at h
    unfold TT.ins1
    split
    · rename_i q
      rw [List.pairwise_cons, List.pairwise_cons]
      exact ⟨fun y hy => by
        rcases List.mem_cons.mp hy with rfl | hy
        · exact q
        · exact Int.le_trans q (h.1 y hy), h⟩
    · rename_i q
      rw [List.pairwise_cons]
      refine ⟨fun y hy => ?_, ins1_sorted i r h.2⟩
      rcases List.mem_cons.mp ((ins1_perm i r).mem_iff.mp hy) with rfl | hy
      · omega
      · exact h.1 y hy
theorem isort_sorted : ∀ l : List Int, (TT.isort l).Pairwise (· ≤ ·)
  | [] => List.Pairwise.nil
  | j :: r => ins1_sorted j _ (isort_sorted r)
theorem sorted_uniq : ∀ {a b : List Int}, a.Perm b → a.Pairwise (· ≤ ·) → b.Pairwise (· ≤ ·) → a = b
  | [], b, h, _, _ => (List.Perm.eq_nil h.symm).symm
  | x :: a, [], h, _, _ => absurd h.length_eq (by simp)
  | x :: a, y :: b, h, ha, hb => by
    rw [List.pairwise_cons] at ha hb
    have e : x = y := by
      have h1 : y ∈ x :: a := h.mem_iff.mpr List.mem_cons_self
      have h2 : x ∈ y :: b := h.mem_iff.mp List.mem_cons_self
      rcases List.mem_cons.mp h1 with q | q
      · exact q.symm
      · rcases List.mem_cons.mp h2 with p | p
        · exact p
        · exact Int.le_antisymm (ha.1 y q) (hb.1 x p)
    subst e
    rw [sorted_uniq h.cons_inv ha.2 hb.2]
theorem ints_repD {K : PySem.W.Frag} {L : Loc} {H : Hp} : ∀ ns : List Int, RepDs N K L H (ns.map L2.V.int) (ns.map TT.D.int)
  | [] => .nil
  | n :: ns => .cons (.int n) (ints_repD ns)
theorem tups_pairs {ds : List D} (h : TT.tupsOk ds = true) : TT.tupsK ds = true ∧ (∀ a ∈ ds, (∃ xs, a = .tup xs) ∧ TT.D.kn 8 a = true) ∧ (∀ a ∈ ds, ∀ b ∈ ds, TT.D.al 8 a b = true ∧ ∃ r, TT.D.lt a b = some r) := by
  unfold TT.tupsOk at h
  rw [Bool.and_eq_true, Bool.and_eq_true, List.all_eq_true] at h
  refine ⟨h.1, fun a ha => ?_, fun a ha b hb => ?_⟩
  · have := h.2.1 a ha
    simp only [Bool.and_eq_true] at this
    refine ⟨?_, this.1.2⟩
    have q := this.1.1
    unfold TT.isTupD at q
    split at q
    · exact ⟨_, rfl⟩
    · cases q
  · have := h.2.1 a ha
    simp only [Bool.and_eq_true, List.all_eq_true] at this
    have q := this.2 b hb
    exact ⟨q.1, Option.isSome_iff_exists.mp q.2⟩
theorem tups_kind {ds : List D} (hk : TT.tupsK ds = true) (ht : ∀ a ∈ ds, ∃ xs, a = .tup xs) : PySem.W.Sortable (ds.map py) ∨ TupsE (ds.map py) := by
  have hne : (∀ a ∈ ds, TT.isTupNe a = true) → PySem.W.Sortable (ds.map py) := by
    intro h
    refine .inl fun d hd => ?_
    obtain ⟨y, hy, rfl⟩ := List.mem_map.mp hd
    have q := h y hy
    unfold TT.isTupNe at q
    split at q
    · rename_i x r
      exact ⟨py x, pys r, by simp [py, pys]⟩
    · cases q
  unfold TT.tupsK at hk
  split at hk
  · rename_i r
    refine .inr ⟨⟨r.map py, by simp [py, pys]⟩, fun d hd => ?_⟩
    obtain ⟨y, hy, rfl⟩ := List.mem_map.mp hd
    obtain ⟨xs, rfl⟩ := ht y hy
    exact ⟨pys xs, by simp [py]⟩
  · exact .inl (hne (List.all_eq_true.mp hk))
theorem pls_of : ∀ {ds : List D}, (∀ a ∈ ds, TT.D.kn 8 a = true) → TT.Ds.pl false 8 ds = true
  | [], _ => by simp [TT.Ds.pl]
  | d :: ds, h => by
    simp only [TT.Ds.pl, Bool.and_eq_true]
    exact ⟨kn_pl 8 d (h d (by simp)), pls_of fun a ha => h a (by simp [ha])⟩
theorem zip_snd : ∀ {xs : List L2.V} {ds : List D}, xs.length = ds.length → (xs.zip ds).map (·.2) = ds
  | [], [], _ => rfl
  | x :: xs, d :: ds, h => by simp [zip_snd (xs := xs) (ds := ds) (by simpa using h)]
  | [], _ :: _, h => by simp at h
  | _ :: _, [], h => by simp at h
theorem reps_zip {K : PySem.W.Frag} {L : Loc} {H : Hp} : ∀ {xs : List L2.V} {ds : List D}, RepDs N K L H xs ds → ∀ b ∈ xs.zip ds, RepD N K L H b.1 b.2
  | _, _, .nil, b, h => by simp at h
  | _, _, .cons r t, b, h => by
    rw [List.zip_cons_cons] at h
    rcases List.mem_cons.mp h with rfl | h
    · exact r
    · exact reps_zip t b h
theorem reps_of {K : PySem.W.Frag} {L : Loc} {H : Hp} : ∀ {bs : List (L2.V × D)}, (∀ b ∈ bs, RepD N K L H b.1 b.2) → RepDs N K L H (bs.map (·.1)) (bs.map (·.2))
  | [], _ => .nil
  | b :: bs, h => .cons (h b (by simp)) (reps_of fun c hc => h c (by simp [hc]))
theorem snd_sorted (hu : X.A.units + 64 < cLine) : Snd1c N X T (.builtin "sorted") (fun x s => TT.opSem .sorted [x] s) := by
  refine ⟨_, cr_sortedI.or (cr_sortedData hu), fun fz L H s x wx Q er z rx o => ?_⟩
  simp only [TT.opSem] at o
  unfold TT.sortedS at o
  split at o
  · rename_i ds e
    split at o
    · rename_i ns e2
      obtain ⟨a, xs, rfl, hs, rs⟩ := lstOf_rep z rx e
      rw [ints_rep rs e2] at hs
      refine .inl ⟨a, ns, rfl, hs, fun ns' p hp hx hn => ?_⟩
      rw [sorted_uniq (hp.trans (isort_perm ns).symm) hx (isort_sorted ns)]
      exact fin_fl z o (ints_repD _) hn
    · split at o
      · rename_i ht
        obtain ⟨h0, h1, h2⟩ := tups_pairs ht
        obtain ⟨a, xs, rfl, hs, rs⟩ := lstOf_rep z rx e
        have hpl : TT.Ds.pl false 8 ds = true := pls_of fun a ha => (h1 a ha).2
        refine .inr ⟨a, xs, ds, rfl, hs, rs.len, RepDs.dp false 8 ds xs hpl rs, ?_, tups_kind h0 fun a ha => (h1 a ha).1, fun d hd => Nat.le_trans (py_depth _ _ _ (kn_pl 8 d (h1 d hd).2)) (by omega), fun p hp => ?_⟩
        · intro d hd d' hd'
          obtain ⟨x, hx, rfl⟩ := List.mem_map.mp hd
          obtain ⟨y, hy, rfl⟩ := List.mem_map.mp hd'
          exact al_py 8 x y (h2 x hx y hy).1
        · have hle : ∀ p ∈ xs.zip ds, ∀ q ∈ xs.zip ds, leP p q = TT.leD p.2 q.2 := by
            intro p hp q hq
            have m1 := (List.of_mem_zip hp).2
            have m2 := (List.of_mem_zip hq).2
            obtain ⟨a1, r, a2⟩ := h2 q.2 m2 p.2 m1
            have := lt_py 8 q.2 p.2 r a1 (kn_pl 8 _ (h1 _ m2).2) (kn_pl 8 _ (h1 _ m1).2) a2
            unfold leP TT.leD
            rw [a2]
            show (!PySem.W.dataLt (py q.2) (py p.2)) = _
            rw [this]
            cases r <;> rfl
          have hm := List.map_mergeSort (r := leP) (s := TT.leD) (f := fun p : L2.V × D => p.2) (l := xs.zip ds) hle
          rw [zip_snd rs.len] at hm
          refine fin_fl z o ?_ hp
          rw [← hm]
          exact reps_of fun b hb => reps_zip rs b ((List.mergeSort_perm _ _).mem_iff.mp hb)
      · exact no_out o
  · exact no_out o
theorem snd_all (hc : X.calm = true) : Snd1c N X T (.builtin "all") (fun x s => TT.opSem .all [x] s) := by
  refine ⟨_, cr_all hc, fun fz L H s x wx Q er z rx o => ?_⟩
  simp only [TT.opSem] at o
  unfold TT.allS at o
  split at o
  · rename_i ds e
    cases e2 : TT.bls ds with
    | none => rw [e2] at o; exact no_out o
    | some ns =>
      rw [e2] at o
      obtain ⟨a, xs, rfl, hs, rs⟩ := lstOf_rep z rx e
      rw [bls_rep rs e2] at hs
      exact ⟨a, ns, rfl, hs, fin_bl z o⟩
  · exact no_out o
theorem snd_any (hc : X.calm = true) : Snd1c N X T (.builtin "any") (fun x s => TT.opSem .any [x] s) := by
  refine ⟨_, cr_any hc, fun fz L H s x wx Q er z rx o => ?_⟩
  simp only [TT.opSem] at o
  unfold TT.allS at o
  split at o
  · rename_i ds e
    cases e2 : TT.bls ds with
    | none => rw [e2] at o; exact no_out o
    | some ns =>
      rw [e2] at o
      obtain ⟨a, xs, rfl, hs, rs⟩ := lstOf_rep z rx e
      rw [bls_rep rs e2] at hs
      exact ⟨a, ns, rfl, hs, fin_bl z o⟩
  · exact no_out o
theorem snd_list : Snd1c N X T (.type "list") (fun x s => TT.opSem .list [x] s) := by
  refine ⟨_, call_list_of, fun fz L H s x wx Q er z rx o => ?_⟩
  simp only [TT.opSem] at o
  unfold TT.listS at o
  split at o
  · rename_i ds e
    obtain ⟨a, xs, rfl, hs, rs⟩ := seqOf_rep z rx e
    exact ⟨a, xs, rfl, hs, fun p hp => fin_fl z o rs hp⟩
  · exact no_out o
theorem snd_tuple : Snd1c N X T (.type "tuple") (fun x s => TT.opSem .tuple [x] s) := by
  refine ⟨_, call_tuple_of, fun fz L H s x wx Q er z rx o => ?_⟩
  simp only [TT.opSem] at o
  unfold TT.tupleS at o
  split at o
  · obtain ⟨a, xs, rfl, h, t⟩ := RepD.tup_inv rx
    exact ⟨a, xs, rfl, .inr ⟨h.seq, fin_d z o rx⟩⟩
  · split at o
    · rename_i ds e
      obtain ⟨a, xs, rfl, hs, rs⟩ := lstOf_rep z rx e
      exact ⟨a, xs, rfl, .inl ⟨hs, fun p hp => fin_tup z o rs hp⟩⟩
    · exact no_out o
theorem snd_c2 {f : Value} {g : Int → Int → Option D} {gV : Int → Int → L2.V} (h : CallR X f (fun xs H Q => ∃ i j, xs = [.int i, .int j] ∧ Q (gV i j) H))
    (hg : ∀ i j d, g i j = some d → ∀ L H, RepD N X.K L H (gV i j) d) : Snd2c N X T f (TT.int2 g) := by
  refine ⟨_, h, fun fz L H s x y wx wy Q er z rx ry o => ?_⟩
  unfold TT.int2 at o
  split at o
  · rename_i i j
    cases e : g i j with
    | none => rw [e] at o; exact no_out o
    | some d =>
      rw [e] at o
      exact ⟨i, j, by rw [RepD.int_inv rx, RepD.int_inv ry], fin_d z o (hg i j d e L H)⟩
  · exact no_out o
theorem snd_max2 (hc : X.calm = true) : Snd2c N X T (.builtin "max") (fun x y s => TT.opSem .max2 [x, y] s) :=
  snd_c2 (call_max2 hc) fun i j d e L H => by cases e; exact .int _
theorem snd_min2 (hc : X.calm = true) : Snd2c N X T (.builtin "min") (fun x y s => TT.opSem .min2 [x, y] s) :=
  snd_c2 (call_min2 hc) fun i j d e L H => by cases e; exact .int _
theorem snd_divmod : Snd2c N X T (.builtin "divmod") (fun x y s => TT.opSem .divmod [x, y] s) := by
  refine ⟨_, call_divmod, fun fz L H s x y wx wy Q er z rx ry o => ?_⟩
  simp only [TT.opSem] at o
  unfold TT.int2 at o
  split at o
  · rename_i i j
    dsimp only at o
    split at o
    · rename_i hc
      exact ⟨i, j, by rw [RepD.int_inv rx, RepD.int_inv ry], hc, fun p hp => fin_tup z o (.cons (.int _) (.cons (.int _) .nil)) hp⟩
    · exact no_out o
  · exact no_out o
/-- isinstance(x, tuple) -/
theorem snd_isTup {fz : Bool} {L : Loc} {H : Hp} {s : Sto} {x : L2.V} {wx : W} {Q : VK} {er : Nat → Hp → Prop} (z : RelS N X.K T L H s) (rx : RepW N X.K L H x wx)
    (o : Out N X.K T L H (okW N X.K Q) er ((TT.opSem .isTup [wx] s).bind (TT.fin fz))) : rIsi X.K [x, .ty "tuple"] H Q := by
  simp only [TT.opSem] at o
  unfold TT.isTupS at o
  split at o
  · obtain ⟨a, xs, rfl, h, t⟩ := RepD.tup_inv rx
    exact ⟨_, _, .type "tuple", .type "tuple", true, rfl, .ty _, .base (.tup h.2), kit_ty (by decide +kernel), fin_bl z o⟩
  · rw [RepD.int_inv rx]
    exact ⟨_, _, .type "int", .type "tuple", false, rfl, .ty _, .base (.int _), kit_ty (by decide +kernel), fin_bl z o⟩
  · exact no_out o
/-! ### methods of lists -/
theorem loc_lst {L : Loc} {H : Hp} {s : Sto} {l : Nat} {ds : List D} {v : L2.V} (z : RelS N X.K T L H s) (r : RepW N X.K L H v (.loc l)) (h : s[l]? = some (.lst ds)) :
    ∃ a xs, v = .ref a ∧ L[l]? = some (some a) ∧ H a = some (.lst xs) ∧ RepDs N X.K L H xs ds := by
  obtain ⟨a, e, rfl⟩ := r
  obtain ⟨b, f, _, m⟩ := z.loc h (fun q => nomatch q)
  rw [e] at f; cases f
  cases m with
  | lst e' r => exact ⟨a, _, rfl, e, e', r⟩
theorem rep1 {L : Loc} {H : Hp} {xs : List L2.V} {w : W} (r : RepWs N X.K L H xs [w]) : ∃ x, xs = [x] ∧ RepW N X.K L H x w := by
  cases r with
  | cons r t => cases t; exact ⟨_, rfl, r⟩
theorem rep0 {L : Loc} {H : Hp} {xs : List L2.V} (r : RepWs N X.K L H xs []) : xs = [] := by cases r; rfl
/-- a list of the store is written, a value comes back -/
theorem fin_set {L : Loc} {H : Hp} {s : Sto} {l : Nat} {a : Addr} {xs : List L2.V} {ds : List D} {d : D} {v : L2.V} {Q : VK} {er : Nat → Hp → Prop} {fz : Bool} (z : RelS N X.K T L H s) (e : L[l]? = some (some a)) (r : RepDs N X.K L H xs ds) (rv : RepD N X.K L H v d)
    (o : Out N X.K T L H (okW N X.K Q) er ((TT.d1 d (s.set l (.lst ds))).bind (TT.fin fz))) : Q v (upd H a (.lst xs)) := by
  have o' : Out N X.K T L H (okW N X.K Q) er (.ok (.d d) (s.set l (.lst ds))) := o
  have m : some a ∈ L := List.mem_of_getElem? e
  have k := (Pst.write (H := H) (o := .lst xs) m).keeps
  exact o' L _ (Pst.write m) (z.write e (show isMut (.lst xs) from trivial) (.lst upd_same (r.keeps k))) v (rv.keeps k)
theorem snd_append : SndM N X T "list.append" (fun x ws s => TT.opSem .append (x :: ws) s) := by
  refine ⟨_, mt_append, fun fz L H s x xs wx ws Q er z rx rs o => ?_⟩
  rcases ws with _ | ⟨w, _ | ⟨_, _⟩⟩ <;> simp only [TT.opSem] at o
  · exact no_out o
  · unfold TT.appS at o
    split at o
    · split at o
      · rename_i ds e
        split at o
        · rename_i hs
          have h1 := small_le hs
          obtain ⟨y, rfl, ry⟩ := rep1 rs
          obtain ⟨a, ys, rfl, e1, e2, r⟩ := loc_lst z rx e
          have l1 := r.len
          exact ⟨a, ys, y, rfl, rfl, e2, by rw [sizeLine_eq]; omega, fin_set z e1 (r.app (.cons ry .nil)) .non o⟩
        · exact no_out o
      · exact no_out o
    · exact no_out o
  · exact no_out o
theorem snd_pop : SndM N X T "list.pop" (fun x ws s => TT.opSem .pop (x :: ws) s) := by
  refine ⟨_, mt_pop, fun fz L H s x xs wx ws Q er z rx rs o => ?_⟩
  rcases ws with _ | ⟨w, _ | ⟨_, _⟩⟩ <;> simp only [TT.opSem] at o
  · unfold TT.popS at o
    split at o
    · split at o
      · rename_i ds e
        cases e3 : ds.getLast? with
        | none => rw [e3] at o; exact no_out o
        | some d =>
          rw [e3] at o
          obtain ⟨a, ys, rfl, e1, e2, r⟩ := loc_lst z rx e
          rw [rep0 rs]
          obtain ⟨v, h1, h2⟩ := r.get (i := ds.length - 1) (d := d) (by rw [← List.getLast?_eq_getElem?]; exact e3)
          exact ⟨a, ys, v, rfl, rfl, e2, by rw [r.len]; exact h1, fin_set z e1 r.dropLast h2 o⟩
      · exact no_out o
    · exact no_out o
  · exact no_out o
  · exact no_out o
theorem snd_extend : SndM N X T "list.extend" (fun x ws s => TT.opSem .extend (x :: ws) s) := by
  refine ⟨_, mt_extend, fun fz L H s x xs wx ws Q er z rx rs o => ?_⟩
  rcases ws with _ | ⟨w, _ | ⟨_, _⟩⟩ <;> simp only [TT.opSem] at o
  · exact no_out o
  · unfold TT.extS at o
    split at o
    · rename_i l es e0
      split at o
      · rename_i ds e
        split at o
        · rename_i hs
          rw [Bool.and_eq_true] at hs
          have h1 := small_le hs.1
          have h2 := small_le hs.2
          obtain ⟨y, rfl, ry⟩ := rep1 rs
          obtain ⟨a, ys, rfl, e1, e2, r⟩ := loc_lst z rx e
          obtain ⟨b, us, rfl, e3, r'⟩ := lstM_rep z ry e0
          have l1 := r.len
          have l2 := r'.len
          exact ⟨a, b, ys, us, rfl, rfl, e2, e3, by rw [sizeLine_eq]; omega, fin_set z e1 (r.app r') .non o⟩
        · exact no_out o
      · exact no_out o
    · exact no_out o
  · exact no_out o
theorem flat_rep {L : Loc} {H : Hp} {v : L2.V} {d : D} (r : RepD N X.K L H v d) (h : TT.flat d = true) : flatV v = true := by
  cases r <;> simp [TT.flat, flatV] at h ⊢
theorem flats_rep {L : Loc} {H : Hp} : ∀ {vs : List L2.V} {ds : List D}, RepDs N X.K L H vs ds → ds.all TT.flat = true → vs.all flatV = true
  | _, _, .nil, _ => rfl
  | _, _, .cons r t, h => by
    simp only [List.all_cons, Bool.and_eq_true] at h ⊢
    exact ⟨flat_rep r h.1, flats_rep t h.2⟩
theorem eqV_rep {L : Loc} {H : Hp} {b : Bool} {n m : Nat} {u v : L2.V} {d e : D} (r : RepD N X.K L H u d) (q : RepD N X.K L H v e) (hd : TT.flat d = true) (he : TT.flat e = true) (pd : TT.D.pl b n d = true) (pe : TT.D.pl b m e = true) : eqV u v = decide (d = e) := by
  cases r <;> first | (simp [TT.flat] at hd; done) | skip
  all_goals cases q <;> first | (simp [TT.flat] at he; done) | skip
  all_goals simp [eqV]
  all_goals (cases b <;> simp [TT.D.pl] at pd pe)
  all_goals rfl
theorem pl_all {b : Bool} {n : Nat} : ∀ {ds : List D} {d : D}, TT.Ds.pl b n ds = true → d ∈ ds → TT.D.pl b n d = true
  | e :: ds, d, h, m => by
    simp only [TT.Ds.pl, Bool.and_eq_true] at h
    rcases List.mem_cons.mp m with rfl | m
    · exact h.1
    · exact pl_all h.2 m
theorem idx_at {d : D} : ∀ {ds : List D}, d ∈ ds → ds[ds.idxOf d]? = some d ∧ ∀ m, m < ds.idxOf d → ∀ e, ds[m]? = some e → e ≠ d
  | e :: ds, h => by
    rw [List.idxOf_cons]
    by_cases q : e = d
    · subst q
      simp
    · rcases List.mem_cons.mp h with rfl | h
      · exact absurd rfl q
      · obtain ⟨h1, h2⟩ := idx_at h
        have b : (e == d) = false := beq_eq_false_iff_ne.mpr q
        rw [b]
        refine ⟨by simpa using h1, fun m hm e' he' => ?_⟩
        cases m with
        | zero =>
          simp at he'
          rw [← he']
          exact q
        | succ m => exact h2 m (by simpa using hm) e' (by simpa using he')
/-- l.count(x) of plain things -/
def rCntV (K : PySem.W.Frag) : V → List V → Hp → VK → Prop := fun x xs H Q => ∃ (a : Addr) (ys : List V) (y : V), x = .ref a ∧ xs = [y] ∧ SqL K H a ys ∧ flatV y = true ∧ ys.all flatV = true ∧ Q (.int (ys.countP (fun z => eqV z y) : Nat)) H
theorem cnt_eqU {y : V} : ∀ {ys : List V} {us : List Value}, Vals ys us → ys.all flatV = true → us.countP (eqU y) = ys.countP fun z => eqV z y
  | _, _, .nil, _ => rfl
  | _, _, .cons r t, f => by
    rw [List.all_cons, Bool.and_eq_true] at f
    rw [List.countP_cons, List.countP_cons, cnt_eqU t f.2, eqU_of r f.1]
theorem mt_cntV {X : Cx} : MtR X "list.count" (rCntV X.K) := by
  intro pins s σ H x xs v us Q I rx rxs h
  obtain ⟨a, ys, y, rfl, rfl, hs, fy, fys, q⟩ := h
  cases rx
  cases rxs with
  | cons ry rt =>
    rename_i uy ut
    cases rt
    obtain ⟨its, rv, ⟨⟨cls, dd, data, sl⟩, n, ho, hc, hdn, hd⟩, hlen⟩ := I.list hs
    simp only at hc hd
    subst hc hd
    refine call_meets PySem.F.slot_list_count ⟨_, ho, rfl⟩ PySem.F.entry_list_count (PySem.F.args_list_count_2 _ _) (SeqAt.list_countAt a its.toArray n dd sl uy (eqU y)) ⟨ho, fun u hu => mem_eqAt ry fy rv fys u (by simpa using hu), ?_⟩
    have ec : its.toArray.toList.countP (eqU y) = ys.countP fun z => eqV z y := cnt_eqU rv fys
    refine ⟨.int (ys.countP (fun z => eqV z y) : Nat), H, I.tok _, ⟨s.toks, ?_⟩, q⟩
    show Value.int ((its.toArray.toList.countP (eqU y) : Nat) : Int) s.toks = _
    rw [ec]
theorem cnt_rep {y : V} {d : D} (ry : RepD N X.K L H y d) (fd : TT.flat d = true) (b : Bool) (pd : TT.D.pl b 12 d = true) : ∀ {ys : List V} {ds : List D}, RepDs N X.K L H ys ds → ds.all TT.flat = true → TT.Ds.pl b 12 ds = true → (ys.countP fun z => eqV z y) = ds.countP fun z => decide (z = d)
  | _, _, .nil, _, _ => rfl
  | _, _, .cons r t, f, p => by
    rw [List.all_cons, Bool.and_eq_true] at f
    simp only [TT.Ds.pl, Bool.and_eq_true] at p
    rw [List.countP_cons, List.countP_cons, cnt_rep ry fd b pd t f.2 p.2, eqV_rep r ry f.1 fd p.1 pd]
theorem snd_count : SndM N X T "list.count" (fun x ws s => TT.opSem .count (x :: ws) s) := by
  refine ⟨_, mt_cntV, fun fz L H s x xs wx ws Q er z rx rs o => ?_⟩
  rcases ws with _ | ⟨w, _ | ⟨_, _⟩⟩ <;> simp only [TT.opSem] at o
  · exact no_out o
  · unfold TT.countS at o
    split at o
    · rename_i ds d e
      split at o
      · rename_i hc
        simp only [Bool.and_eq_true] at hc
        obtain ⟨⟨h1, h3⟩, h4⟩ := hc
        obtain ⟨b, hb⟩ := Option.isSome_iff_exists.mp h1
        obtain ⟨_, q, p1, p2⟩ := pyIn_ex hb
        obtain ⟨y, rfl, ry⟩ := rep1 rs
        obtain ⟨a, ys, rfl, hs, r⟩ := lstOf_rep z rx e
        refine ⟨a, ys, y, rfl, rfl, hs, flat_rep ry h3, flats_rep r h4, ?_⟩
        rw [cnt_rep ry h3 _ p1 r h4 p2]
        exact fin_int z o
      · exact no_out o
    · exact no_out o
  · exact no_out o
end
end TS

set_option maxRecDepth 100000
/-! An instance held against a text. -/
namespace TS
open PySem PySem.Spec PyProof.Rows L2 PySem.SeqAt
open MeetsSeq MeetsSeq2 MeetsSeq3 SeqRoads2
open AutoSeq1 (wpAny_loadPart')
/-- a class whose == is object's, of things that are no texts -/
structure OEq (K : PySem.W.Frag) (C : Addr) : Prop where
  obj : PySem.W.mroIn K C (.type "object") = some true
  eq : PySem.W.findIn K (.ref C) "__eq__" = some (some (.builtin "object.__eq__"))
  ne : PySem.W.findIn K (.ref C) "__ne__" = some (some (.builtin "object.__ne__"))
theorem oeq_of {K : PySem.W.Frag} {C : Addr} (h : oeqB K C = true) : OEq K C := by
  unfold oeqB at h
  simp only [Bool.and_eq_true, decide_eq_true_eq] at h
  exact ⟨h.1, h.2.1, h.2.2⟩
section
variable {M : Model} {prog : Program} {w : World} {A : Around} {E : Value → Shared → Prop} {s : Shared} {K : PySem.W.Frag} {x C : Addr} {ox : Obj} {od : Option Obj}
theorem isSame_str {R : Bool → Shared → Prop} {z : Str} {t : Tok} (h : R false s) : wpAny M A (isSame (.ref x) (.str z t)) R E s := wpAny_of_eq (rfl : isSame (.ref x) (.str z t) = pure false) h
theorem entry_str {Q : Fin → Shared → Prop} {z : Str} {t : Tok} (hq : Q (.done (.ret .notImplemented)) s) : wpAny M A (Builtin.«object.__eq__» ⟨[.ref x, .str z t], []⟩) Q E s := by
  unfold Builtin.«object.__eq__»
  repeat (first | with_reducible refine isSame_str ?_ | wp_step)
  exact hq
theorem call_objEqS {Q : Value → Shared → Prop} {z : Str} {t : Tok} (X : K.In s.heap) (I : PySem.W.InstAt s.heap x ox C od) (hm : PySem.W.mroIn K C (.type "object") = some true) (hq : Q .notImplemented s) :
    wpAny (model prog w) A (call (.builtin "object.__eq__") [.ref x, .str z t]) Q E s :=
  wpAny_call (codeAny_call_builtin F.cmp_object.eq.plain F.cmpEntry_eq (PySem.W.check_slot F.cmpKind_eq F.cmpSplit_eq (I.type.andThen (PySem.W.looks_mroIn X hm)) (F.cmpArgs_eq _ _) (entry_str hq)))
theorem sub_strC : PySem.W.subIn K (.type "str") (.ref C) = some false := by
  have e : fastBuiltinMro "str" = some [.type "str", .type "object"] := by decide +kernel
  show (fastBuiltinMro "str").map (·.contains (.ref C)) = some false
  rw [e]
  first
    | rfl
    | simp
theorem str_eq_ins (b : Str) (u : Tok) (l : Addr) (c : Value) (dd : Option Addr) (sl : Array (Option Value)) :
    Meets (Builtin.«str.__eq__» ⟨[.str b u, .ref l], []⟩) (fun _ R s => s.heap.get? l = some { cls := c, dict := dd, data := .plain, slots := sl } ∧ R (.ok (.ret .notImplemented)) s) :=
  .of_wp fun prog w A R s h => by obtain ⟨hp, g, d, tk, os⟩ := s; obtain ⟨hl, h⟩ := h; wp_walk using wpAny_loadPart' hl, wpAny_load hl; exact ⟨_, rfl, h⟩
theorem rc_str {z : Str} {t : Tok} {c : Value} {dd : Option Addr} {sl : Array (Option Value)} (hu : A.units < cLine) (X : K.In s.heap) (I : PySem.W.InstAt s.heap x ox C od) (ho : s.heap.get? x = some { cls := c, dict := dd, data := .plain, slots := sl }) (hm : PySem.W.mroIn K C (.type "object") = some true) (hs : PySem.W.findIn K (.ref C) "__eq__" = some (some (.builtin "object.__eq__"))) :
    RcAt A s (.ref x) (.str z t) false := fun prog w E Q h => by
  have one : wpAny (model prog w) A (tryCompare (.ref x) "__eq__" (.str z t)) (fun r s' => r = none ∧ s' = s) E s := by
    unfold tryCompare
    exact wpAny_bind (HN.ifBound_objEq X I hs (call_objEqS X I hm (wpAny_pure ⟨rfl, rfl⟩)))
  have two : wpAny (model prog w) A (tryCompare (.str z t) "__eq__" (.ref x)) (fun r s' => r = none ∧ s' = s) E s :=
    wpAny_tryCompare_declines (typeIs_str s z t) F.slot_str_eq_refl (call_meets F.slot_str_eq_refl (typeIs_str s z t) F.entry_str_eq (F.args_str_eq_2 _ _) (str_eq_ins z t x c dd sl) ⟨ho, rfl, rfl, rfl⟩)
  simp only [richCompare, cmpInfo_Eq, oneThing_ref]
  refine wpAny_holding (wpAny_bind (wpAny_cRoomFor hu ?_))
  refine wpAny_bind (I.type.here ?_)
  refine wpAny_bind (wpAny_typeOf (typeIs_str s z t) ?_)
  split
  · refine wpAny_bind ((PySem.W.looks_subIn X sub_strC).here ?_)
    simp only [Bool.false_eq_true, if_false, Bool.not_false, if_true]
    refine wpAny_bind (m := tryCompare (.ref x) _ (.str z t)) (wpAny_mono one (fun r s1 z => ?_) fun _ _ e => e)
    obtain ⟨z1, z2⟩ := z
    subst z1
    subst z2
    refine wpAny_bind (m := tryCompare (.str z t) _ (.ref x)) (wpAny_mono two (fun r s2 z => ?_) fun _ _ e => e)
    obtain ⟨z1, z2⟩ := z
    subst z1
    subst z2
    exact wpAny_bind (wpAny_rule (wpAny_bind (wpAny_of_eq (rfl : isSame (.ref x) (.str z t) = pure false) (wpAny_pure h))))
  · rename_i q
    exact absurd (by simp) q
end

def rEqU (K : PySem.W.Frag) : R2 := fun x y H Q => rEqP K false x y H Q ∨ ∃ a C dx fs z, x = .ref a ∧ H a = some (.ins C dx fs) ∧ OEq K C ∧ y = .str z ∧ Q (.bl false) H
section
variable {N : Nm} {X : Cx} {T : List (Addr × Str)}
theorem op_eqU (hu : X.A.units + 64 < cLine) : OpR X (compareOp .Eq) (rEqU X.K) := by
  intro pins s σ H x y v u Q I rx ry h
  rcases h with h | ⟨a, C, dx, fs, z, rfl, ha, o, rfl, q⟩
  · exact op_eqP hu pins s σ H x y v u Q I rx ry h
  · cases rx
    obtain ⟨t, rfl⟩ := ry
    obtain ⟨mA, O, _⟩ := ins_get I.hok ha
    obtain ⟨od, J, _⟩ := O.look
    have hu' : X.A.units < cLine := by omega
    have rc := rc_str (A := X.A) (z := z) (t := t) hu' I.kIn J O.obj o.obj o.eq
    exact rc X.prog X.w X.xe (EP X pins σ Q) ⟨.bl _, H, I, rfl, q⟩
theorem eqO_snd {fz : Bool} {L : Loc} {H : Hp} {s : Sto} {x y : L2.V} {wx wy : W} {Q : VK} {er : Nat → Hp → Prop} (hO : ∀ c, c < N.cs.length → OEq X.K (N.ca X.K c)) (z : RelS N X.K T L H s) (rx : RepW N X.K L H x wx) (ry : RepW N X.K L H y wy)
    (o : Out N X.K T L H (okW N X.K Q) er ((TT.eqS false wx wy s).bind (TT.fin fz))) : rEqU X.K x y H Q := by
  unfold TT.eqS at o
  split at o
  · rename_i a b e1 e2
    simp only [Bool.false_eq_true, if_false] at o
    unfold TT.pyEqO at o
    split at o
    · rename_i hf
      rw [Bool.or_eq_true] at hf
      rcases hf with hf | hf
      · left
        obtain ⟨q, h1, h2⟩ := fair_ex hf
        refine ⟨py a, py b, datOf_dp z rx e1 h1, datOf_dp z ry e2 h2, py_plain _ _ _ h1, py_plain _ _ _ h2, py_depth _ _ _ h1, ?_⟩
        rw [py_eqv q a 12 12 b h1 h2]
        exact fin_bl z o
      · right
        unfold TT.objStr at hf
        split at hf
        · rename_i c ks vs zz
          cases wx with
          | loc l =>
            simp only [TT.datOf] at e1
            split at e1 <;> cases e1
          | d d1 =>
            cases wy with
            | loc l =>
              simp only [TT.datOf] at e2
              split at e2 <;> cases e2
            | d d2 =>
              simp only [TT.datOf, Option.some.injEq] at e1 e2
              subst e1 e2
              cases rx with
              | obj hc n h e r =>
                refine ⟨_, _, _, _, zz, rfl, h, hO _ hc, RepD.str_inv ry, ?_⟩
                have := fin_bl z o
                simpa using this
        · cases hf
    · exact no_out o
  · exact no_out o
theorem snd_eq (hu : X.A.units + 64 < cLine) (hO : ∀ c, c < N.cs.length → OEq X.K (N.ca X.K c)) : Snd2 N X T (compareOp .Eq) (fun x y s => TT.opSem .eq [x, y] s) :=
  ⟨_, op_eqU hu, fun fz L H s x y wx wy Q er z rx ry o => eqO_snd hO z rx ry o⟩
end
end TS

set_option maxRecDepth 100000
/-! l.index(x) of numbers' tuples. -/
namespace TS
open PySem PySem.Spec PyProof.Rows L2
mutual
theorem py_lay : ∀ (d : D), TT.D.ns d = true → (py d).canLay0 = true
  | .non, _ => by simp only [py, PyData.canLay0]
  | .bl _, _ => by simp only [py, PyData.canLay0]
  | .int _, _ => by simp only [py, PyData.canLay0]
  | .str _, h => by simp [TT.D.ns] at h
  | .tup ds, h => by
    simp only [py, PyData.canLay0]
    exact pys_lay ds (by simpa [TT.D.ns] using h)
  | .lst ds, h => by
    simp only [py, PyData.canLay0]
    exact pys_lay ds (by simpa [TT.D.ns] using h)
  | .rol _, h => by simp [TT.D.ns] at h
  | .dct _ _ _, h => by simp [TT.D.ns] at h
  | .obj _ _ _, h => by simp [TT.D.ns] at h
theorem pys_lay : ∀ (ds : List D), TT.Ds.ns ds = true → PyData.canLayAll0 (pys ds) = true
  | [], _ => by simp only [pys, PyData.canLayAll0]
  | d :: ds, h => by
    simp only [TT.Ds.ns, Bool.and_eq_true] at h
    simp only [pys, PyData.canLayAll0, py_lay d h.1, pys_lay ds h.2, Bool.and_self]
end
theorem pys_get : ∀ (ds : List D) (i : Nat), (pys ds)[i]? = (ds[i]?).map py
  | [], i => by simp [pys]
  | d :: ds, 0 => by simp [pys]
  | d :: ds, i + 1 => by simpa [pys] using pys_get ds i
def rIndexU (K : PySem.W.Frag) : V → List V → Hp → VK → Prop := fun x xs H Q => rIndex K x xs H Q ∨ rIndexD K x xs H Q
section
variable {N : Nm} {X : Cx} {T : List (Addr × Str)}
theorem mt_indexU (hu : X.A.units + 65 < cLine) : MtR X "list.index" (rIndexU X.K) := by
  intro pins s σ H x xs v us Q I rx rxs h
  rcases h with h | h
  · exact mt_index pins s σ H x xs v us Q I rx rxs h
  · exact mt_indexD hu pins s σ H x xs v us Q I rx rxs h
theorem snd_indexU (hu : X.A.units + 65 < cLine) : SndM N X T "list.index" (fun x ws s => TT.opSem .index (x :: ws) s) := by
  refine ⟨_, mt_indexU hu, fun fz L H s x xs wx ws Q er z rx rs o => ?_⟩
  rcases ws with _ | ⟨w, _ | ⟨_, _⟩⟩ <;> simp only [TT.opSem] at o
  · exact no_out o
  · unfold TT.indexS at o
    split at o
    · rename_i ds d e
      split at o
      · rename_i hc
        simp only [Bool.and_eq_true, Bool.or_eq_true, decide_eq_true_eq] at hc
        obtain ⟨⟨h1, h2⟩, hc⟩ := hc
        obtain ⟨b, hb⟩ := Option.isSome_iff_exists.mp h1
        obtain ⟨_, q, p1, p2⟩ := pyIn_ex hb
        obtain ⟨y, rfl, ry⟩ := rep1 rs
        obtain ⟨a, ys, rfl, hs, r⟩ := lstOf_rep z rx e
        obtain ⟨i1, i2⟩ := idx_at h2
        obtain ⟨v, g1, g2⟩ := r.get i1
        rcases hc with ⟨h3, h4⟩ | ⟨h3, h4⟩
        · left
          refine ⟨a, ys, y, ds.idxOf d, v, rfl, rfl, hs, flat_rep ry h3, flats_rep r h4, g1, ?_, fun m z' hm hz => ?_, fin_int z o⟩
          · rw [eqV_rep g2 ry h3 h3 p1 p1]; simp
          · obtain ⟨e', k1, k2⟩ := r.get' hz
            have me := List.mem_of_getElem? k1
            rw [eqV_rep k2 ry (List.all_eq_true.mp h4 _ me) h3 (pl_all p2 me) p1]
            exact decide_eq_false (i2 m hm e' k1)
        · right
          refine ⟨a, y, py d, pys ds, ds.idxOf d, py d, rfl, rfl, .lst hs (RepDs.dp q 12 ds _ p2 r), RepD.dp q 12 d _ p1 ry, ?_, ?_, ?_, ?_, fun m z' hm hz => ?_, fin_int z o⟩
          · unfold SeqAt.shaped
            rw [Bool.and_eq_true, decide_eq_true_eq]
            refine ⟨by simp only [PyData.canLay0]; exact pys_lay ds h4, ?_⟩
            have := pys_depth q 12 ds p2
            simp only [PyData.depth]
            omega
          · unfold SeqAt.shaped
            rw [Bool.and_eq_true, decide_eq_true_eq]
            have := py_depth q 12 d p1
            exact ⟨py_lay d h3, by omega⟩
          · rw [pys_get, i1]; rfl
          · rw [py_eqv q d 12 12 d p1 p1]; simp
          · rw [pys_get] at hz
            cases k1 : ds[m]? with
            | none => rw [k1] at hz; cases hz
            | some e' =>
              rw [k1] at hz
              cases hz
              rw [py_eqv q e' 12 12 d (pl_all p2 (List.mem_of_getElem? k1)) p1]
              exact decide_eq_false (i2 m hm e' k1)
      · exact no_out o
    · exact no_out o
  · exact no_out o
end
end TS

set_option maxRecDepth 100000
/-! What is seen of a piece of syntax. -/
namespace TS
open PySem PySem.Spec PyProof.Rows L2
def noStar : Expr → Bool
  | .Starred _ _ => false
  | _ => true
theorem star1 {e : Expr} {es : List Expr} {env : Env} (h : noStar e = true) : starEach (e :: es) env = (false, eval e env) :: starEach es env := by
  cases e <;> first | rfl | cases h
theorem stars {env : Env} : ∀ {es : List Expr}, es.all noStar = true → ∀ p ∈ starEach es env, p.1 = false
  | [], _, p, hp => by cases hp
  | e :: es, h, p, hp => by
    simp only [List.all_cons, Bool.and_eq_true] at h
    rw [star1 h.1] at hp
    rcases List.mem_cons.mp hp with rfl | hp
    · rfl
    · exact stars h.2 p hp
theorem back_any {env : Env} {es : List Expr} {pos : Pos} (h : es.all noStar = true) : (backTo pos (starEach es env)).any (·.1) = false := by
  rw [List.any_eq_false]
  intro p hp
  unfold backTo at hp
  obtain ⟨q, hq, rfl⟩ := List.mem_map.mp hp
  have := stars h q hq
  simp [this]
theorem back_all {env : Env} {es : List Expr} {pos : Pos} (h : es.all noStar = true) : (backTo pos (starEach es env)).all (fun x => !x.1) = true := by
  rw [List.all_eq_true]
  intro p hp
  unfold backTo at hp
  obtain ⟨q, hq, rfl⟩ := List.mem_map.mp hp
  have := stars h q hq
  simp [this]
def noSlice : Expr → Bool
  | .Slice _ _ _ _ => false
  | _ => true
theorem plainIx {b : Expr} (h : noSlice b = true) : PlainIx b := by
  intro o i
  cases b <;> first | rfl | cases h
theorem noSl {b : Expr} (h : noSlice b = true) : NoSl b := plainIx h
def noCall : Expr → Bool
  | .Call (.Name _ _) [] [] _ => false
  | _ => true
theorem attr_base {o : Expr} {m : Str} {env : Env} (h : noCall o = true) : attributeBase o m env (eval o env) = eval o env := by
  unfold attributeBase
  split
  · cases h
  · rfl
def noComp : Expr → Bool
  | .ListComp _ _ _ _ => false
  | .SetComp _ _ _ _ => false
  | .DictComp _ _ _ _ _ => false
  | _ => true
theorem swaps_no {e : Expr} {t : Option Expr} {l : Nat} {env : Env} (h : noComp e = true) : swapsWith e t l env = pure false := by
  cases e <;> first | rfl | cases h
def noTup : Expr → Bool
  | .Tuple _ _ _ => false
  | _ => true
theorem stores_no {t e : Expr} {env : Env} (h : noTup e = true) : swappedStores [t] e env = pure none := by
  unfold swappedStores
  cases e <;> first | (cases t <;> rfl) | exact Bool.noConfusion h
/-- a name that is no plain local of the def: the stores go over a tuple -/
def cellT (sc : Scope) : Expr → Bool
  | .Tuple ts _ _ => ts.any fun
    | .Name x _ => !(sc.names.lookup x == some .local)
    | _ => true
  | _ => false
theorem fm_lt {α β : Type} (f : α → Option β) (p : α → Bool) (hp : ∀ x, p x = true → f x = none) : ∀ l : List α, l.any p = true → (l.filterMap f).length < l.length
  | [], h => by simp at h
  | x :: l, h => by
    simp only [List.any_cons, Bool.or_eq_true] at h
    rcases h with h | h
    · rw [List.filterMap_cons_none (hp x h)]
      exact Nat.lt_succ_of_le (List.length_filterMap_le f l)
    · have := fm_lt f p hp l h
      rw [List.filterMap_cons]
      split
      · exact Nat.lt_succ_of_lt this
      · exact Nat.succ_lt_succ this
theorem stores_cell {t e : Expr} {env : Env} (h : cellT env.scope t = true) : swappedStores [t] e env = pure none := by
  cases t <;> first | (cases h; done) | skip
  rename_i ts k p
  unfold swappedStores
  cases e <;> first | rfl | skip
  rename_i vs k2 p2
  simp only
  split
  · rfl
  · split
    · rfl
    · have hl := fm_lt (fun x : Expr => match x with
        | .Name id pos => if env.kindOf id == some .local && pos.line == (ts.head?.map (·.pos.line)).getD 0 then some id else none
        | _ => none) (fun x : Expr => match x with
        | .Name x _ => !(env.scope.names.lookup x == some .local)
        | _ => true) (fun x hx => by
          cases x <;> first | rfl | skip
          rename_i id pos
          simp only [Bool.not_eq_true'] at hx
          have : (env.kindOf id == some NameKind.local) = false := hx
          simp only [this, Bool.false_and, Bool.false_eq_true, if_false]) ts h
      rw [if_pos]
      simp only [Bool.or_eq_true, bne_iff_ne, ne_eq]
      exact .inl (Nat.ne_of_lt hl)
def noSet : Expr → Bool
  | .Set _ _ _ => false
  | _ => true
theorem folded_no {e : Expr} {env : Env} (h : noSet e = true) (x : Value) : foldedSetIterable e env x = pure x := by
  cases e <;> first | rfl | cases h
theorem marks_no {b : Expr} {op : CmpOp} (h : noSet b = true) : behindInMarks op b = false := by
  cases b <;> first | rfl | cases h
def plainTest : Expr → Bool
  | .UnaryOp .Not _ _ => false
  | .BoolOp _ _ _ => false
  | .IfExp _ _ _ _ => false
  | .Compare _ _ _ _ => false
  | _ => true
theorem test_plain {e : Expr} {env : Env} (h : plainTest e = true) (whole : Sem Value) : isTrue e env whole = (do let v ← whole; standAt e.pos; holding [v] (truthy v)) := by
  cases e <;> first | rfl | (cases h; done) | skip
  rename_i op a pos
  cases op <;> first | rfl | cases h
/-- a method call on one line, few arguments -/
theorem meth_form {o : Expr} {m : Str} {apos pos : Pos} {es : List Expr} {env : Env} (h1 : noCall o = true) (h2 : es.all noStar = true) (h3 : es.length < 29) (h4 : (apos.endLine == pos.line) = true) :
    eval (.Call (.Attribute o m apos) es [] pos) env = (do
      let ov ← eval o env
      standAt apos.atName
      let (f, first) ← holding [ov] (getMethod ov m (plainOf o env))
      callWith pos f first (backTo pos (starEach es env)) (backToKw pos (keywordEach [] env))) := by
  show (do
    let ov ← attributeBase o m env (eval o env)
    standAt apos.atName
    methodCall o m apos pos env ov (es.length + 0) (backTo pos (starEach es env)) (backToKw pos (keywordEach [] env))) = _
  rw [attr_base h1]
  congr 1
  funext ov
  congr 1
  funext _
  refine mcall_line ?_ h4
  unfold methodCallForm
  rw [back_all h2]
  simp [backToKw, keywordEach]
  omega
end TS

set_option maxRecDepth 100000
/-! Expressions: what the small language says of them holds of the program's text. -/
namespace TS
open PySem PySem.Spec PyProof.Rows L2
abbrev Wx0 : WX := fun _ _ _ _ => False
def cE (N : Nm) (K : PySem.W.Frag) (T : List (Addr × Str)) (Wx : WX) (f : TT.Env → Sto → TT.R W) : TE := fun σ H Q =>
  ∃ (L : Loc) (e : TT.Env) (s : Sto), RelE N K L H σ e ∧ RelS N K T L H s ∧ Out N K T L H (okW N K Q) (fun c H' => Wx (.ref (N.ea K c)) none σ H') (f e s)
def cA (N : Nm) (K : PySem.W.Frag) (T : List (Addr × Str)) (Wx : WX) (f : TT.Env → Sto → TT.R (List W)) : TA := fun σ H Q =>
  ∃ (L : Loc) (e : TT.Env) (s : Sto), RelE N K L H σ e ∧ RelS N K T L H s ∧ Out N K T L H (fun ws L' H' _ => ∀ vs, RepWs N K L' H' vs ws → Q vs H') (fun c H' => Wx (.ref (N.ea K c)) none σ H') (f e s)
def cT (N : Nm) (K : PySem.W.Frag) (T : List (Addr × Str)) (Wx : WX) (f : TT.Env → Sto → TT.R Bool) : TT := fun σ H Q =>
  ∃ (L : Loc) (e : TT.Env) (s : Sto), RelE N K L H σ e ∧ RelS N K T L H s ∧ Out N K T L H (fun b _ H' _ => Q b H') (fun c H' => Wx (.ref (N.ea K c)) none σ H') (f e s)
def asT (f : TT.Env → Sto → TT.R W) : TT.Env → Sto → TT.R Bool := fun e s => (f e s).bind fun w s => TT.R.of (TT.asB w) s
theorem PEw {X : Cx} {e : Expr} {t t' : TE} (h : PE X e t) (w : ∀ σ H Q, t' σ H Q → t σ H Q) : PE X e t' := ⟨fun pins s σ H Q I q => h.run pins s σ H Q I (w σ H Q q)⟩
theorem PTw {X : Cx} {e : Expr} {t t' : TT} (h : PT X e t) (w : ∀ σ H Q, t' σ H Q → t σ H Q) : PT X e t' := ⟨fun pins s σ H Q I q => h.run pins s σ H Q I (w σ H Q q)⟩
theorem PWw {X : Cx} {e : Expr} {t t' : TT} (h : PW X e t) (w : ∀ σ H Q, t' σ H Q → t σ H Q) : PW X e t' := ⟨fun wh pins s σ H Q I q => h.run wh pins s σ H Q I (w σ H Q q)⟩
theorem PAw {X : Cx} {es : List Expr} {t t' : TA} (h : PA X es t) (w : ∀ σ H Q, t' σ H Q → t σ H Q) : PA X es t' := ⟨fun pos pins s σ H Q I q => h.run pos pins s σ H Q I (w σ H Q q)⟩
section
variable {N : Nm} {X : Cx} {T : List (Addr × Str)} {Wx : WX} {f g h : TT.Env → Sto → TT.R W} {a b d : Expr} {pos : Pos}
/-- one piece, then more -/
theorem cE_then {K : PySem.W.Frag} {σ : L2.St} {H : Hp} {L : Loc} {e : TT.Env} {s : Sto} {α : Type} {ok : α → Loc → Hp → Sto → Prop} {k : W → Sto → TT.R α} {Q : VK} (re : RelE N K L H σ e) (rs : RelS N K T L H s)
    (o : Out N K T L H ok (fun c H' => Wx (.ref (N.ea K c)) none σ H') ((f e s).bind k))
    (q : ∀ w L' H' s' v, Pst L L' H H' → RelE N K L' H' σ e → RelS N K T L' H' s' → RepW N K L' H' v w → Out N K T L' H' ok (fun c H' => Wx (.ref (N.ea K c)) none σ H') (k w s') → Q v H') : cE N K T Wx f σ H Q :=
  ⟨L, e, s, re, rs, (Out.bind o).mono (fun w L' H' s' p z o' v rv => q w L' H' s' v p (re.pst p) z rv o') fun _ _ x => x⟩
theorem pe_v {i : Nat} {x : Str} (hN : X.N[i]? = some x) (hv : Vis X.env.scope x) (hd : (x == ("__debug__" : Str)) = false) (hcd : (x == ("__classdict__" : Str)) = false) (c : TT.Cxt) :
    PE X (.Name x pos) (cE N X.K T Wx (TT.evE c (.v i))) :=
  PEw (pe_var hN hv hd hcd) fun σ H Q ⟨L, e, s, re, rs, o⟩ => by
    simp only [TT.evE] at o
    split at o
    · rename_i w hw
      obtain ⟨v, h1, h2⟩ := re.at_ i w hw
      exact ⟨v, h1, o.here rs v h2⟩
    · exact False.elim o
/-- constants -/
inductive IsK : TT.D → Const → Prop
  | non : IsK .non .none
  | bl (b : Bool) : IsK (.bl b) (.bool b)
  | int (i : Int) : IsK (.int i) (.int i)
  | str (x : Str) : IsK (.str x) (.str x)
theorem pe_k {x : TT.D} {k : Const} {j : Nat} (h : IsK x k) (c : TT.Cxt) : PE X (.Constant k j pos) (cE N X.K T Wx (TT.evE c (.k x))) := by
  cases h with
  | non => exact PEw pe_non fun σ H Q ⟨L, e, s, re, rs, o⟩ => o.here rs _ .non
  | bl b => exact PEw pe_bl fun σ H Q ⟨L, e, s, re, rs, o⟩ => o.here rs _ (.bl b)
  | int i => exact PEw pe_int fun σ H Q ⟨L, e, s, re, rs, o⟩ => o.here rs _ (.int i)
  | str x => exact PEw pe_str fun σ H Q ⟨L, e, s, re, rs, o⟩ => o.here rs _ (.str x)
/-- a constant of the module -/
theorem pe_g {x : Str} {v : L2.V} {u : Value} {y : TT.D} {n : Nat} (hg : Gl X x) (hm : X.mg x = some u) (r : RelV v u) (hd : (x == ("__debug__" : Str)) = false) (q : ∀ L H, RepD N X.K L H v y) (c : TT.Cxt) :
    PE X (.Name x pos) (cE N X.K T Wx (TT.evE c (.g n y))) :=
  PEw (pe_glob hg hm r hd) fun σ H Q ⟨L, e, s, re, rs, o⟩ => o.here rs _ (q L H)
/-! ### operators -/
abbrev two (f g : TT.Env → Sto → TT.R W) (k : W → W → Sto → TT.R TT.Vl) (fz : Bool) : TT.Env → Sto → TT.R W := fun e s => (f e s).bind fun x s => (g e s).bind fun y s => (k x y s).bind (TT.fin fz)
theorem two_then {K : PySem.W.Frag} {r : R2} {fz : Bool} {k : W → W → Sto → TT.R TT.Vl}
    (hr : ∀ (fz : Bool) (L : Loc) (H : Hp) (s : Sto) (x y : L2.V) (wx wy : W) (Q : VK) (er : Nat → Hp → Prop), RelS N K T L H s → RepW N K L H x wx → RepW N K L H y wy → Out N K T L H (okW N K Q) er ((k wx wy s).bind (TT.fin fz)) → r x y H Q)
    (σ : L2.St) (H : Hp) (Q : VK) (o : cE N K T Wx (two f g k fz) σ H Q) : tOp r (cE N K T Wx f) (cE N K T Wx g) σ H Q := by
  obtain ⟨L, e, s, re, rs, o⟩ := o
  exact cE_then re rs o fun w L1 H1 s1 v p1 re1 rs1 rv o1 => cE_then re1 rs1 o1 fun u L2 H2 s2 y p2 re2 rs2 ru o2 => hr fz L2 H2 s2 v y w u Q _ rs2 (rv.pst p2) ru o2
theorem pe_bin {op : Operator} {fz : Bool} {k : W → W → Sto → TT.R TT.Vl} (hk : Snd2 N X T (binaryOp op) k) (ha : PE X a (cE N X.K T Wx f)) (hb : PE X b (cE N X.K T Wx g)) : PE X (.BinOp a op b pos) (cE N X.K T Wx (two f g k fz)) := by
  obtain ⟨r, ho, hr⟩ := hk
  exact PEw (pe_op ho ha hb) (two_then hr)
theorem pe_cp {op : CmpOp} {fz : Bool} {k : W → W → Sto → TT.R TT.Vl} (hk : Snd2 N X T (compareOp op) k) (ha : PE X a (cE N X.K T Wx f)) (hb : PE X b (cE N X.K T Wx g)) (hm : behindInMarks op b = false) :
    PE X (.Compare a [op] [b] pos) (cE N X.K T Wx (two f g k fz)) := by
  obtain ⟨r, ho, hr⟩ := hk
  exact PEw (pe_cmpR ho ha hb hm) (two_then hr)
theorem pe_item {fz : Bool} {k : W → W → Sto → TT.R TT.Vl} (hk : SndI N X T k) (ha : PE X a (cE N X.K T Wx f)) (hb : PE X b (cE N X.K T Wx g)) (hs : noSlice b = true) : PE X (.Subscript a b pos) (cE N X.K T Wx (two f g k fz)) := by
  obtain ⟨r, ho, hr⟩ := hk
  exact PEw (pe_ix ho ha hb (plainIx hs)) (two_then hr)
abbrev one (f : TT.Env → Sto → TT.R W) (k : W → Sto → TT.R TT.Vl) (fz : Bool) : TT.Env → Sto → TT.R W := fun e s => (f e s).bind fun x s => (k x s).bind (TT.fin fz)
theorem pe_neg {fz : Bool} (ha : PE X a (cE N X.K T Wx f)) : PE X (.UnaryOp .USub a pos) (cE N X.K T Wx (one f (fun x s => TT.opSem .neg [x] s) fz)) :=
  PEw (pe_un un_neg ha) fun σ H Q ⟨L, e, s, re, rs, o⟩ => cE_then re rs o fun w L1 H1 s1 v p1 re1 rs1 rv o1 => by
    simp only [TT.opSem] at o1
    unfold TT.negS at o1
    split at o1
    · exact ⟨_, RepD.int_inv rv, fin_int rs1 o1⟩
    · exact no_out o1
/-! ### argument lists -/
theorem pa_n (c : TT.Cxt) : PA X [] (cA N X.K T Wx (TT.evEs c .nil)) := PAw pa_nil fun σ H Q ⟨L, e, s, re, rs, o⟩ => o.here rs _ .nil
theorem pa_c {x : TT.E} {xs : TT.Es} {es : List Expr} (c : TT.Cxt) (ha : PE X a (cE N X.K T Wx (TT.evE c x))) (hr : PA X es (cA N X.K T Wx (TT.evEs c xs))) (hs : noStar a = true) : PA X (a :: es) (cA N X.K T Wx (TT.evEs c (.cons x xs))) :=
  PAw (pa_cons ha hr (star1 hs)) fun σ H Q ⟨L, e, s, re, rs, o⟩ => by
    simp only [TT.evEs] at o
    refine cE_then re rs o fun w L1 H1 s1 v p1 re1 rs1 rv o1 => ⟨L1, e, s1, re1, rs1, (Out.bind o1).mono (fun ws L2 H2 s2 p2 rs2 o2 vs rvs => ?_) fun _ _ x => x⟩
    exact o2.here rs2 (v :: vs) (.cons (rv.pst p2) rvs)
theorem evEs_len (c : TT.Cxt) : ∀ (es : TT.Es) (e : TT.Env) (s : Sto) (ws : List W) (s' : Sto), TT.evEs c es e s = .ok ws s' → ws.length = es.len
  | .nil, e, s, ws, s', h => by
    simp only [TT.evEs, TT.R.ok.injEq] at h
    rw [← h.1]; rfl
  | .cons a r, e, s, ws, s', h => by
    simp only [TT.evEs] at h
    cases h1 : TT.evE c a e s with
    | ok w s1 =>
      rw [h1] at h
      simp only [TT.R.bind_ok] at h
      cases h2 : TT.evEs c r e s1 with
      | ok vs s2 =>
        rw [h2] at h
        simp only [TT.R.bind_ok, TT.R.ok.injEq] at h
        rw [← h.1]
        simp [TT.Es.len, evEs_len c r e s1 vs s2 h2]
      | err _ _ => rw [h2] at h; simp at h
      | no => rw [h2] at h; simp at h
    | err _ _ => rw [h1] at h; simp at h
    | no => rw [h1] at h; simp at h
theorem ev_op1 (c : TT.Cxt) (fz : Bool) (o : TT.Op) (a : TT.E) : TT.evE c (.op fz o (.cons a .nil)) = one (TT.evE c a) (fun x s => TT.opSem o [x] s) fz := by
  funext e s
  show ((TT.evEs c (.cons a .nil) e s).bind fun ws s => (TT.opSem o ws s).bind fun v s => TT.fin fz v s) = (TT.evE c a e s).bind fun x s => (TT.opSem o [x] s).bind (TT.fin fz)
  simp only [TT.evEs]
  cases TT.evE c a e s <;> rfl
theorem ev_op2 (c : TT.Cxt) (fz : Bool) (o : TT.Op) (a b : TT.E) : TT.evE c (.op fz o (.cons a (.cons b .nil))) = two (TT.evE c a) (TT.evE c b) (fun x y s => TT.opSem o [x, y] s) fz := by
  funext e s
  show ((TT.evEs c (.cons a (.cons b .nil)) e s).bind fun ws s => (TT.opSem o ws s).bind fun v s => TT.fin fz v s) = (TT.evE c a e s).bind fun x s => (TT.evE c b e s).bind fun y s => (TT.opSem o [x, y] s).bind (TT.fin fz)
  simp only [TT.evEs]
  cases TT.evE c a e s with
  | ok w s1 =>
    simp only [TT.R.bind_ok]
    cases TT.evE c b e s1 <;> rfl
  | err _ _ => rfl
  | no => rfl
/-! ### calls of built-ins -/
/-- a built-in's name, as the module and the def see it -/
structure Blt (X : Cx) (x : Str) (v : Value) : Prop where
  gl : Gl X x
  no : X.mg x = none
  at_ : bootBuiltins x = some v
  n1 : x ≠ "__name__"
  n2 : (x == ("__debug__" : Str)) = false
theorem pe_b1 {x : Str} {q : String} {p : Pos} {fz : Bool} {k : W → Sto → TT.R TT.Vl} (hb : Blt X x (.builtin q)) (hk : Snd1c N X T (.builtin q) k) (ha : PE X a (cE N X.K T Wx f)) (hs : noStar a = true) :
    PE X (.Call (.Name x p) [a] [] pos) (cE N X.K T Wx (one f k fz)) := by
  obtain ⟨r, hc, hr⟩ := hk
  refine PEw (pe_callB hc hb.gl hb.no hb.at_ (pa_cons ha pa_nil (star1 hs)) hb.n1 hb.n2 (star1 hs) (back_any (es := []) rfl)) fun σ H Q ⟨L, e, s, re, rs, o⟩ => ?_
  exact cE_then re rs o fun w L1 H1 s1 v p1 re1 rs1 rv o1 => hr fz L1 H1 s1 v w Q _ rs1 rv o1
theorem pe_t1 {x : Str} {q : String} {p : Pos} {fz : Bool} {k : W → Sto → TT.R TT.Vl} (hb : Blt X x (.type q)) (hk : Snd1c N X T (.type q) k) (ha : PE X a (cE N X.K T Wx f)) (hs : noStar a = true) :
    PE X (.Call (.Name x p) [a] [] pos) (cE N X.K T Wx (one f k fz)) := by
  obtain ⟨r, hc, hr⟩ := hk
  refine PEw (pe_callTy hc hb.gl hb.no hb.at_ (pa_cons ha pa_nil (star1 hs)) hb.n1 hb.n2 (star1 hs) (back_any (es := []) rfl)) fun σ H Q ⟨L, e, s, re, rs, o⟩ => ?_
  exact cE_then re rs o fun w L1 H1 s1 v p1 re1 rs1 rv o1 => hr fz L1 H1 s1 v w Q _ rs1 rv o1
theorem pe_b2 {x : Str} {q : String} {p : Pos} {fz : Bool} {k : W → W → Sto → TT.R TT.Vl} (hb : Blt X x (.builtin q)) (hk : Snd2c N X T (.builtin q) k) (ha : PE X a (cE N X.K T Wx f)) (hb' : PE X b (cE N X.K T Wx g)) (hs : noStar a = true) (hs' : noStar b = true) :
    PE X (.Call (.Name x p) [a, b] [] pos) (cE N X.K T Wx (two f g k fz)) := by
  obtain ⟨r, hc, hr⟩ := hk
  refine PEw (pe_callB hc hb.gl hb.no hb.at_ (pa_cons ha (pa_cons hb' pa_nil (star1 hs')) (star1 hs)) hb.n1 hb.n2 (star1 hs) (back_any (es := [b]) (by simp [hs']))) fun σ H Q ⟨L, e, s, re, rs, o⟩ => ?_
  exact cE_then re rs o fun w L1 H1 s1 v p1 re1 rs1 rv o1 => cE_then re1 rs1 o1 fun u L2 H2 s2 y p2 re2 rs2 ru o2 => hr fz L2 H2 s2 v y w u Q _ rs2 (rv.pst p2) ru o2
/-- isinstance(a, tuple) -/
theorem pe_isT {p p2 : Pos} {fz : Bool} (hb : Blt X "isinstance" (.builtin "isinstance")) (ht : Blt X "tuple" (.type "tuple")) (ha : PE X a (cE N X.K T Wx f)) (hs : noStar a = true) :
    PE X (.Call (.Name "isinstance" p) [a, .Name "tuple" p2] [] pos) (cE N X.K T Wx (one f (fun x s => TT.opSem .isTup [x] s) fz)) := by
  have h2 : PE X (.Name "tuple" p2) (tC (.ty "tuple")) := pe_bltn ht.gl ht.no ht.at_ rfl ht.n1 ht.n2
  refine PEw (pe_callB call_isi hb.gl hb.no hb.at_ (pa_cons ha (pa_cons h2 pa_nil (star1 rfl)) (star1 hs)) hb.n1 hb.n2 (star1 hs) (back_any (es := [.Name "tuple" p2]) rfl)) fun σ H Q ⟨L, e, s, re, rs, o⟩ => ?_
  exact cE_then re rs o fun w L1 H1 s1 v p1 re1 rs1 rv o1 => snd_isTup rs1 rv o1
/-! ### chains of comparisons -/
/-- the operators of a chain: dInts -/
def coOf : TT.Op → Option CmpOp
  | .lt => some .Lt
  | .le => some .LtE
  | _ => none
def coB (o : TT.Op) (i j : Int) : Bool := match o with
  | .lt => decide (i < j)
  | .le => decide (i ≤ j)
  | _ => false
theorem co_op {o : TT.Op} {q : CmpOp} (h : coOf o = some q) : OpR X (compareOp q) (rI0 fun i j => .bl (coB o i j)) := by
  cases o <;> simp [coOf] at h <;> subst h
  · exact op_lt
  · exact op_le
theorem co_sem {o : TT.Op} {x y : W} {r : Bool} (h : TT.coSem o x y = some r) : ∃ i j, x = .d (.int i) ∧ y = .d (.int j) ∧ r = coB o i j := by
  unfold TT.coSem at h
  split at h
  · cases h; exact ⟨_, _, rfl, rfl, rfl⟩
  · cases h; exact ⟨_, _, rfl, rfl, rfl⟩
  · cases h
theorem pe_chn {o o' : TT.Op} {q q' : CmpOp} {x y z : TT.E} (c : TT.Cxt) (h1 : coOf o = some q) (h2 : coOf o' = some q') (ha : PE X a (cE N X.K T Wx (TT.evE c x))) (hb : PE X b (cE N X.K T Wx (TT.evE c y))) (hd : PE X d (cE N X.K T Wx (TT.evE c z))) (hm : noSet d = true) :
    PE X (.Compare a [q, q'] [b, d] pos) (cE N X.K T Wx (TT.evE c (.chain o o' x y z))) := by
  refine PEw (pe_chain (co_op h1) (co_op h2) ha hb hd (marks_no hm)) fun σ H Q ⟨L, e, s, re, rs, w⟩ => ?_
  simp only [TT.evE] at w
  refine cE_then re rs w fun wx L1 H1 s1 v p1 re1 rs1 rv w1 => cE_then re1 rs1 w1 fun wy L2 H2 s2 u p2 re2 rs2 ru w2 => ?_
  cases e1 : TT.coSem o wx wy with
  | none => rw [e1] at w2; exact False.elim w2
  | some r =>
    rw [e1] at w2
    obtain ⟨i, j, rfl, rfl, rfl⟩ := co_sem e1
    refine ⟨i, j, RepD.int_inv rv, RepD.int_inv ru, coB o i j, rfl, ?_⟩
    cases e2 : coB o i j with
    | false =>
      rw [e2] at w2
      exact w2.here rs2 _ (.bl false)
    | true =>
      rw [e2] at w2
      refine cE_then re2 rs2 w2 fun wz L3 H3 s3 t p3 re3 rs3 rt w3 => ?_
      cases e3 : TT.coSem o' (.d (.int j)) wz with
      | none => rw [e3] at w3; exact False.elim w3
      | some r' =>
        rw [e3] at w3
        obtain ⟨j', k, e4, rfl, rfl⟩ := co_sem e3
        cases e4
        exact ⟨j, k, RepD.int_inv ru, RepD.int_inv rt, w3.here rs3 _ (.bl _)⟩
/-! ### tests -/
theorem asB_ok {w : W} {r : Bool} (h : TT.asB w = some r) : w = .d (.bl r) := by
  unfold TT.asB at h
  split at h
  · cases h; rfl
  · cases h
theorem bl_here {K : PySem.W.Frag} {L : Loc} {H : Hp} {s : Sto} {w : W} {v : L2.V} {Q : Bool → Hp → Prop} {er : Nat → Hp → Prop} (rs : RelS N K T L H s) (rv : RepW N K L H v w)
    (o : Out N K T L H (fun b _ H' _ => Q b H') er (TT.R.of (TT.asB w) s)) : ∃ c, v = .bl c ∧ Q c H := by
  cases e : TT.asB w with
  | none => rw [e] at o; exact False.elim o
  | some r =>
    rw [e] at o
    rw [asB_ok e] at rv
    exact ⟨r, RepD.bl_inv rv, o.here rs⟩
theorem pt_v (ha : PE X a (cE N X.K T Wx f)) (hp : plainTest a = true) : PT X a (cT N X.K T Wx (asT f)) :=
  PTw (pt_val ha (test_plain hp)) fun σ H Q ⟨L, e, s, re, rs, o⟩ => cE_then re rs o fun w L1 H1 s1 v p1 re1 rs1 rv o1 => bl_here rs1 rv o1
theorem pt_cp {op : CmpOp} {fz : Bool} {k : W → W → Sto → TT.R TT.Vl} (hk : Snd2 N X T (compareOp op) k) (ha : PE X a (cE N X.K T Wx f)) (hb : PE X b (cE N X.K T Wx g)) (hm : behindInMarks op b = false) :
    PT X (.Compare a [op] [b] pos) (cT N X.K T Wx (asT (two f g k fz))) := by
  obtain ⟨r, ho, hr⟩ := hk
  refine PTw (pt_cmpR ho ha hb hm) fun σ H Q ⟨L, e, s, re, rs, o⟩ => ?_
  show tOp r _ _ σ H _
  refine two_then (k := k) (fz := fz) hr σ H _ ⟨L, e, s, re, rs, (Out.bind o).mono (fun w L1 H1 s1 p1 rs1 o1 v rv => ?_) fun _ _ x => x⟩
  exact bl_here rs1 rv o1
theorem pt_chn {o o' : TT.Op} {q q' : CmpOp} {x y z : TT.E} (c : TT.Cxt) (h1 : coOf o = some q) (h2 : coOf o' = some q') (ha : PE X a (cE N X.K T Wx (TT.evE c x))) (hb : PE X b (cE N X.K T Wx (TT.evE c y))) (hd : PE X d (cE N X.K T Wx (TT.evE c z))) (hm : noSet d = true) :
    PT X (.Compare a [q, q'] [b, d] pos) (cT N X.K T Wx (asT (TT.evE c (.chain o o' x y z)))) := by
  refine PTw (pt_chain (co_op h1) (co_op h2) ha hb hd (marks_no hm)) fun σ H Q ⟨L, e, s, re, rs, w⟩ => ?_
  simp only [asT, TT.evE] at w
  have w' := Out.bind w
  refine cE_then re rs w' fun wx L1 H1 s1 v p1 re1 rs1 rv w1 => cE_then re1 rs1 w1 fun wy L2 H2 s2 u p2 re2 rs2 ru w2 => ?_
  cases e1 : TT.coSem o wx wy with
  | none => rw [e1] at w2; exact False.elim w2
  | some r =>
    rw [e1] at w2
    obtain ⟨i, j, rfl, rfl, rfl⟩ := co_sem e1
    refine ⟨i, j, RepD.int_inv rv, RepD.int_inv ru, coB o i j, rfl, ?_⟩
    cases e2 : coB o i j with
    | false =>
      rw [e2] at w2
      exact ⟨false, rfl, (w2.here rs2).here rs2⟩
    | true =>
      rw [e2] at w2
      refine cE_then re2 rs2 w2 fun wz L3 H3 s3 t p3 re3 rs3 rt w3 => ?_
      cases e3 : TT.coSem o' (.d (.int j)) wz with
      | none => rw [e3] at w3; exact False.elim w3
      | some r' =>
        rw [e3] at w3
        obtain ⟨j', k, e4, rfl, rfl⟩ := co_sem e3
        cases e4
        exact ⟨j, k, RepD.int_inv ru, RepD.int_inv rt, _, rfl, (w3.here rs3).here rs3⟩
theorem pt_n {x : TT.E} (c : TT.Cxt) (ha : PT X a (cT N X.K T Wx (asT (TT.evE c x)))) : PT X (.UnaryOp .Not a pos) (cT N X.K T Wx (asT (TT.evE c (.not x)))) :=
  PTw (pt_not ha) fun σ H Q ⟨L, e, s, re, rs, o⟩ => ⟨L, e, s, re, rs, by
    simp only [asT, TT.evE] at o ⊢
    cases h1 : TT.evE c x e s with
    | ok w s1 =>
      rw [h1] at o
      simp only [TT.R.bind_ok] at o ⊢
      cases h2 : TT.asB w with
      | none => rw [h2] at o; exact o
      | some r => rw [h2] at o; exact o
    | err _ _ => rw [h1] at o; exact o
    | no => rw [h1] at o; exact o⟩
theorem pe_n {x : TT.E} (c : TT.Cxt) (ha : PE X a (cE N X.K T Wx (TT.evE c x))) : PE X (.UnaryOp .Not a pos) (cE N X.K T Wx (TT.evE c (.not x))) :=
  PEw (pe_not ha) fun σ H Q ⟨L, e, s, re, rs, o⟩ => by
    simp only [TT.evE] at o
    refine cE_then re rs o fun w L1 H1 s1 v p1 re1 rs1 rv o1 => ?_
    cases h2 : TT.asB w with
    | none => rw [h2] at o1; exact False.elim o1
    | some r =>
      rw [h2] at o1
      rw [asB_ok h2] at rv
      exact ⟨r, RepD.bl_inv rv, o1.here rs1 _ (.bl _)⟩
/-! ### and, or -/
def bopOf : Bool → BoolOp
  | true => .And
  | false => .Or
theorem pw_1 {x : TT.E} (q : Bool) (c : TT.Cxt) (ha : PT X a (cT N X.K T Wx (asT (TT.evE c x)))) : PW X (.BoolOp (bopOf q) [a] pos) (cT N X.K T Wx (asT (TT.evB c q (.cons x .nil)))) := by
  have w : ∀ σ H Q, cT N X.K T Wx (asT (TT.evB c q (.cons x .nil))) σ H Q → cT N X.K T Wx (asT (TT.evE c x)) σ H Q := fun σ H Q ⟨L, e, s, re, rs, o⟩ => ⟨L, e, s, re, rs, by
    simp only [asT, TT.evB] at o ⊢
    cases h1 : TT.evE c x e s with
    | ok w s1 =>
      rw [h1] at o
      simp only [TT.R.bind_ok] at o ⊢
      cases h2 : TT.asB w with
      | none => rw [h2] at o; exact o
      | some r => rw [h2] at o; exact o
    | err _ _ => rw [h1] at o; exact o
    | no => rw [h1] at o; exact o⟩
  cases q with
  | true => exact PWw (pw_and1 ha) w
  | false => exact PWw (pw_or1 ha) w
theorem pw_2 {x y : TT.E} {xs : TT.Es} {rest : List Expr} (q : Bool) (c : TT.Cxt) (ha : PT X a (cT N X.K T Wx (asT (TT.evE c x)))) (hb : PW X (.BoolOp (bopOf q) (b :: rest) pos) (cT N X.K T Wx (asT (TT.evB c q (.cons y xs))))) :
    PW X (.BoolOp (bopOf q) (a :: b :: rest) pos) (cT N X.K T Wx (asT (TT.evB c q (.cons x (.cons y xs))))) := by
  cases q with
  | true =>
    refine PWw (pw_and ha hb) fun σ H Q ⟨L, e, s, re, rs, o⟩ => ⟨L, e, s, re, rs, ?_⟩
    simp only [asT, TT.evB] at o ⊢
    cases h1 : TT.evE c x e s with
    | ok w s1 =>
      rw [h1] at o
      simp only [TT.R.bind_ok] at o ⊢
      cases h2 : TT.asB w with
      | none => rw [h2] at o; exact o
      | some r =>
        rw [h2] at o
        intro L' H' p z
        cases r with
        | true => exact ⟨L', e, s1, re.pst p, z, Out.step p o⟩
        | false => exact o L' H' p z
    | err _ _ => rw [h1] at o; exact o
    | no => rw [h1] at o; exact o
  | false =>
    refine PWw (pw_or ha hb) fun σ H Q ⟨L, e, s, re, rs, o⟩ => ⟨L, e, s, re, rs, ?_⟩
    simp only [asT, TT.evB] at o ⊢
    cases h1 : TT.evE c x e s with
    | ok w s1 =>
      rw [h1] at o
      simp only [TT.R.bind_ok] at o ⊢
      cases h2 : TT.asB w with
      | none => rw [h2] at o; exact o
      | some r =>
        rw [h2] at o
        intro L' H' p z
        cases r with
        | true => exact o L' H' p z
        | false => exact ⟨L', e, s1, re.pst p, z, Out.step p o⟩
    | err _ _ => rw [h1] at o; exact o
    | no => rw [h1] at o; exact o
theorem pe_bop1 {x : TT.E} (q : Bool) (c : TT.Cxt) (ha : PE X a (cE N X.K T Wx (TT.evE c x))) : PE X (.BoolOp (bopOf q) [a] pos) (cE N X.K T Wx (TT.evB c q (.cons x .nil))) :=
  PEw (pe_one ha) fun σ H Q ⟨L, e, s, re, rs, o⟩ => by
    simp only [TT.evB] at o
    refine ⟨L, e, s, re, rs, (Out.bind o).mono (fun w L1 H1 s1 p1 rs1 o1 v rv => ?_) fun _ _ x => x⟩
    cases h2 : TT.asB w with
    | none => rw [h2] at o1; exact False.elim o1
    | some r =>
      rw [h2] at o1
      rw [asB_ok h2] at rv
      exact o1.here rs1 v rv
theorem pe_bop2 {x y : TT.E} {xs : TT.Es} {rest : List Expr} (q : Bool) (c : TT.Cxt) (ha : PE X a (cE N X.K T Wx (TT.evE c x))) (hb : PE X (.BoolOp (bopOf q) (b :: rest) pos) (cE N X.K T Wx (TT.evB c q (.cons y xs)))) :
    PE X (.BoolOp (bopOf q) (a :: b :: rest) pos) (cE N X.K T Wx (TT.evB c q (.cons x (.cons y xs)))) := by
  cases q with
  | true =>
    refine PEw (pe_and ha hb) fun σ H Q ⟨L, e, s, re, rs, o⟩ => ?_
    simp only [TT.evB] at o
    refine cE_then re rs o fun w L1 H1 s1 v p1 re1 rs1 rv o1 => ?_
    cases h2 : TT.asB w with
    | none => rw [h2] at o1; exact False.elim o1
    | some r =>
      rw [h2] at o1
      rw [asB_ok h2] at rv
      refine ⟨r, RepD.bl_inv rv, ?_⟩
      cases r with
      | true => exact ⟨L1, e, s1, re1, rs1, o1⟩
      | false => exact o1.here rs1 _ (.bl false)
  | false =>
    refine PEw (pe_or ha hb) fun σ H Q ⟨L, e, s, re, rs, o⟩ => ?_
    simp only [TT.evB] at o
    refine cE_then re rs o fun w L1 H1 s1 v p1 re1 rs1 rv o1 => ?_
    cases h2 : TT.asB w with
    | none => rw [h2] at o1; exact False.elim o1
    | some r =>
      rw [h2] at o1
      rw [asB_ok h2] at rv
      refine ⟨r, RepD.bl_inv rv, ?_⟩
      cases r with
      | true => exact o1.here rs1 _ (.bl true)
      | false => exact ⟨L1, e, s1, re1, rs1, o1⟩
theorem pe_if {x y z : TT.E} (c : TT.Cxt) (hc : PT X a (cT N X.K T Wx (asT (TT.evE c x)))) (hb : PE X b (cE N X.K T Wx (TT.evE c y))) (hd : PE X d (cE N X.K T Wx (TT.evE c z))) : PE X (.IfExp a b d pos) (cE N X.K T Wx (TT.evE c (.ife x y z))) :=
  PEw (pe_ifExp hc hb hd) fun σ H Q ⟨L, e, s, re, rs, o⟩ => ⟨L, e, s, re, rs, by
    simp only [asT, TT.evE] at o ⊢
    cases h1 : TT.evE c x e s with
    | ok w s1 =>
      rw [h1] at o
      simp only [TT.R.bind_ok] at o ⊢
      cases h2 : TT.asB w with
      | none => rw [h2] at o; exact o
      | some r =>
        rw [h2] at o
        intro L' H' p rs'
        cases r with
        | true => exact ⟨L', e, s1, re.pst p, rs', Out.step p o⟩
        | false => exact ⟨L', e, s1, re.pst p, rs', Out.step p o⟩
    | err _ _ => rw [h1] at o; exact o
    | no => rw [h1] at o; exact o⟩
/-! ### displays -/
theorem asDs_rep {K : PySem.W.Frag} {L : Loc} {H : Hp} : ∀ {ws : List W} {vs : List L2.V} {ds : List D}, RepWs N K L H vs ws → TT.asDs ws = some ds → RepDs N K L H vs ds
  | [], _, ds, r, h => by cases r; cases h; exact .nil
  | w :: ws, _, ds, r, h => by
    cases r with
    | cons r t =>
      cases w with
      | d x =>
        simp only [TT.asDs, Option.map_eq_some_iff] at h
        obtain ⟨es, h1, rfl⟩ := h
        exact .cons r (asDs_rep t h1)
      | loc l => simp [TT.asDs] at h
theorem evs_then {K : PySem.W.Frag} {σ : L2.St} {H : Hp} {L : Loc} {e : TT.Env} {s : Sto} {α : Type} {ok : α → Loc → Hp → Sto → Prop} {k : List W → Sto → TT.R α} {Q : List L2.V → Hp → Prop} {xs : TT.Es} (c : TT.Cxt) (re : RelE N K L H σ e) (rs : RelS N K T L H s)
    (o : Out N K T L H ok (fun c H' => Wx (.ref (N.ea K c)) none σ H') ((TT.evEs c xs e s).bind k))
    (q : ∀ ws L' H' s' vs, ws.length = xs.len → Pst L L' H H' → RelE N K L' H' σ e → RelS N K T L' H' s' → RepWs N K L' H' vs ws → Out N K T L' H' ok (fun c H' => Wx (.ref (N.ea K c)) none σ H') (k ws s') → Q vs H') : cA N K T Wx (TT.evEs c xs) σ H Q := by
  refine ⟨L, e, s, re, rs, ?_⟩
  cases h1 : TT.evEs c xs e s with
  | ok ws s1 =>
    rw [h1] at o
    exact fun L' H' p z vs rv => q ws L' H' s1 vs (evEs_len c xs e s ws s1 h1) p (re.pst p) z rv (Out.step p o)
  | err _ _ => rw [h1] at o; exact o
  | no => rw [h1] at o; exact o
theorem pe_tp {xs : TT.Es} {es : List Expr} {x1 : Nat} (c : TT.Cxt) (h : PA X es (cA N X.K T Wx (TT.evEs c xs))) (hl : xs.len ≤ 1000) : PE X (.Tuple es x1 pos) (cE N X.K T Wx (TT.evE c (.tup xs))) :=
  PEw (pe_tup h) fun σ H Q ⟨L, e, s, re, rs, o⟩ => by
    simp only [TT.evE] at o
    refine evs_then c re rs o fun ws L1 H1 s1 vs ln p1 re1 rs1 rv o1 => ?_
    cases h2 : TT.asDs ws with
    | none => rw [h2] at o1; exact False.elim o1
    | some ds =>
      rw [h2] at o1
      have rd := asDs_rep rv h2
      refine ⟨by rw [rv.len, ln, sizeLine_eq]; omega, fun p hp => ?_⟩
      exact o1 L1 _ (Pst.new_ hp) (rs1.new_ hp) _ (RepD.tup ⟨fresh_notin rs1 hp, upd_same⟩ (rd.keeps (Pst.new_ hp).keeps))
theorem pe_ls {xs : TT.Es} {es : List Expr} {fz : Bool} (c : TT.Cxt) (h : PA X es (cA N X.K T Wx (TT.evEs c xs))) (hl : xs.len ≤ 1000) : PE X (.List es pos) (cE N X.K T Wx (TT.evE c (.lst fz xs))) :=
  PEw (pe_lst h) fun σ H Q ⟨L, e, s, re, rs, o⟩ => by
    simp only [TT.evE] at o
    refine evs_then c re rs o fun ws L1 H1 s1 vs ln p1 re1 rs1 rv o1 => ?_
    cases h2 : TT.asDs ws with
    | none => rw [h2] at o1; exact False.elim o1
    | some ds =>
      rw [h2] at o1
      exact ⟨by rw [rv.len, ln, sizeLine_eq]; omega, fun p hp => fin_fl' rs1 o1 (asDs_rep rv h2) hp⟩
theorem pe_dc {fz : Bool} {t : Nat} (c : TT.Cxt) (ht : t = 0 ∨ t = 1 ∨ t = 3) : PE X (.Dict [] [] pos) (cE N X.K T Wx (TT.evE c (.dic fz t))) := by
  rcases ht with rfl | rfl | rfl
  · refine PEw pe_dnewK fun σ H Q ⟨L, e, s, re, rs, o⟩ p hp => ?_
    simp only [TT.evE, TT.fin] at o
    cases fz with
    | true => exact o L _ (Pst.new_ hp) (rs.new_ hp) _ (RepD.dK (kvs := []) (fresh_notin rs hp) (.inl upd_same) .nil)
    | false =>
      refine o (L ++ [some p]) _ (Pst.grow hp) (rs.grow hp (show isMut (.dK []) from trivial) (.dK (kvs := []) upd_same .nil)) _ ⟨p, ?_, rfl⟩
      rw [← rs.len]; simp
  · refine PEw pe_dnewT fun σ H Q ⟨L, e, s, re, rs, o⟩ p hp => ?_
    simp only [TT.evE, TT.fin] at o
    cases fz with
    | true => exact o L _ (Pst.new_ hp) (rs.new_ hp) _ (RepD.dT (kvs := []) (fresh_notin rs hp) (.inl upd_same) .nil)
    | false =>
      refine o (L ++ [some p]) _ (Pst.grow hp) (rs.grow hp (show isMut (.dT []) from trivial) (.dT (kvs := []) upd_same .nil)) _ ⟨p, ?_, rfl⟩
      rw [← rs.len]; simp
  · refine PEw pe_dnewK fun σ H Q ⟨L, e, s, re, rs, o⟩ p hp => ?_
    simp only [TT.evE, TT.fin] at o
    cases fz with
    | true => exact o L _ (Pst.new_ hp) (rs.new_ hp) _ (RepD.d3 (fresh_notin rs hp) (.inl upd_same))
    | false =>
      refine o (L ++ [some p]) _ (Pst.grow hp) (rs.grow hp (show isMut (.dK []) from trivial) (.d3 upd_same)) _ ⟨p, ?_, rfl⟩
      rw [← rs.len]; simp
end
end TS

set_option maxRecDepth 100000
/-! isinstance of an own class. -/
namespace TS
open PySem PySem.Spec PyProof.Rows L2
structure IsiC (N : Nm) (K : PySem.W.Frag) (c : Nat) : Prop where
  ha : PySem.W.findIn K (.ref (N.ca K c)) "__class__" = some (some (.builtin "object.__class__"))
  hm : PySem.W.mroIn K (N.ca K c) (.type "object") = some true
  str : PySem.W.kitOne K (.type "str") (.ref (N.ca K c)) = some false
  non : PySem.W.kitOne K (.type "NoneType") (.ref (N.ca K c)) = some false
  tup : PySem.W.kitOne K (.type "tuple") (.ref (N.ca K c)) = some false
  obj : ∀ k, k < N.cs.length → PySem.W.kitOne K (.ref (N.ca K k)) (.ref (N.ca K c)) = some (decide (k = c))
structure IsiK (N : Nm) (K : PySem.W.Frag) : Prop where
  hn : PySem.W.specialIn K (.builtin "object.__class__") "__get__" = some (some (.builtin "getset_descriptor.__get__"))
  htk : PySem.W.takesIn K (.builtin "object.__class__") = some true
  each : ∀ c, c < N.cs.length → IsiC N K c
theorem isi_of {N : Nm} {K : PySem.W.Frag} (h : isiB N K = true) : IsiK N K := by
  unfold isiB at h
  simp only [Bool.and_eq_true, decide_eq_true_eq, List.all_eq_true, List.mem_range] at h
  obtain ⟨h1, h2, h3⟩ := h
  exact ⟨h1, h2, fun c hc => by
    obtain ⟨a, b, d, e, f, g⟩ := h3 c hc
    exact ⟨a, b, d, e, f, g⟩⟩
section
variable {N : Nm} {X : Cx} {T : List (Addr × Str)}
theorem snd_isCls {c : Nat} (hc : c < N.cs.length) (I : IsiK N X.K) (C : ∀ k, k < N.cs.length → Cls X.K (N.ca X.K k)) {fz : Bool} {L : Loc} {H : Hp} {s : Sto} {x : L2.V} {wx : W} {Q : VK} {er : Nat → Hp → Prop} (z : RelS N X.K T L H s) (rx : RepW N X.K L H x wx)
    (o : Out N X.K T L H (okW N X.K Q) er ((TT.opSem (.isCls c) [wx] s).bind (TT.fin fz))) : rIsi X.K [x, .ref (N.ca X.K c)] H Q := by
  have i := I.each c hc
  simp only [TT.opSem] at o
  unfold TT.isClsS at o
  split at o
  · rename_i k ks vs
    have rx' : RepD N X.K L H x (.obj k ks vs) := rx
    cases rx' with
    | obj hk n h e r =>
      have j := I.each k hk
      exact ⟨_, _, _, _, _, rfl, .own _, .base (.ins h (C k hk) j.ha I.hn I.htk j.hm), i.obj k hk, fin_bl z o⟩
  · rw [RepD.str_inv rx]
    exact ⟨_, _, _, _, false, rfl, .own _, .base (.str _), i.str, fin_bl z o⟩
  · rw [RepD.non_inv rx]
    exact ⟨_, _, _, _, false, rfl, .own _, .base .non, i.non, fin_bl z o⟩
  · obtain ⟨a, xs, rfl, h, t⟩ := RepD.tup_inv rx
    exact ⟨_, _, _, _, false, rfl, .own _, .base (.tup h.2), i.tup, fin_bl z o⟩
  · exact no_out o
theorem pe_isC {a : Expr} {f : TT.Env → Sto → TT.R W} {Wx : WX} {y : Str} {c : Nat} {p p2 pos : Pos} {fz : Bool} (hc : c < N.cs.length) (I : IsiK N X.K) (C : ∀ k, k < N.cs.length → Cls X.K (N.ca X.K k)) (hb : Blt X "isinstance" (.builtin "isinstance")) (hg : Gl X y) (hm : X.mg y = some (.ref (N.ca X.K c))) (hd : (y == ("__debug__" : Str)) = false) (ha : PE X a (cE N X.K T Wx f)) (hs : noStar a = true) :
    PE X (.Call (.Name "isinstance" p) [a, .Name y p2] [] pos) (cE N X.K T Wx (one f (fun x s => TT.opSem (.isCls c) [x] s) fz)) := by
  have h2 := pe_glob (pos := p2) (v := V.ref (N.ca X.K c)) hg hm rfl hd
  refine PEw (pe_callB call_isi hb.gl hb.no hb.at_ (pa_cons ha (pa_cons h2 pa_nil (star1 rfl)) (star1 hs)) hb.n1 hb.n2 (star1 hs) (back_any (es := [.Name y p2]) rfl)) fun σ H Q ⟨L, e, s, re, rs, o⟩ => ?_
  exact cE_then re rs o fun w L1 H1 s1 v p1 re1 rs1 rv o1 => snd_isCls hc I C rs1 rv o1
end
end TS

set_option maxRecDepth 100000
/-! Slices, reversed slices, attributes, methods of built-in types. -/
namespace TS
open PySem PySem.Spec PyProof.Rows L2
/-! ### t[::-1] of a tuple -/
theorem adj_back (n : Nat) : Builtin.Slice.sliceAdjust none none (-1) (n : Int) = ((n : Int) - 1, -1) := rfl
theorem plc_back (n : Nat) : Builtin.Slice.slicePlaces ((n : Int) - 1) (-1) (-1) = n := by
  unfold Builtin.Slice.slicePlaces
  rw [if_neg (by decide)]
  cases n with
  | zero => rfl
  | succ n =>
    rw [if_pos (by omega)]
    show ((((n + 1 : Nat) : Int) - 1 - -1 - 1) / 1 + 1).toNat = n + 1
    rw [Int.ediv_one]
    omega
theorem fmap_some {α β : Type} {f : α → Option β} {g : α → β} : ∀ {l : List α}, (∀ m, m ∈ l → f m = some (g m)) → l.filterMap f = l.map g
  | [], _ => rfl
  | a :: l, h => by
    rw [List.filterMap_cons, h a (by simp), List.map_cons, fmap_some fun m hm => h m (by simp [hm])]
theorem pick_back (xs : Array Value) : ((List.range xs.size).filterMap fun (m : Nat) => xs[(((xs.size : Int) - 1) + (m : Int) * (-1)).toNat]?).toArray = xs.toList.reverse.toArray := by
  congr 1
  apply List.ext_getElem?
  intro i
  have h : ((List.range xs.size).filterMap fun (m : Nat) => xs[(((xs.size : Int) - 1) + (m : Int) * (-1)).toNat]?) = (List.range xs.size).map fun m => xs.toList.getD (xs.size - 1 - m) .none := by
    refine fmap_some fun m hm => ?_
    rw [List.mem_range] at hm
    have e : (((xs.size : Int) - 1) + (m : Int) * (-1)).toNat = xs.size - 1 - m := by omega
    have l : xs.size - 1 - m < xs.size := by omega
    rw [e, Array.getElem?_eq_getElem l]
    simp [List.getD, l]
  rw [h]
  by_cases hi : i < xs.size
  · rw [List.getElem?_map, List.getElem?_range hi, List.getElem?_reverse (by simpa using hi)]
    have l : xs.size - 1 - i < xs.size := by omega
    simp [List.getD, l]
  · rw [List.getElem?_eq_none (by simp; omega), List.getElem?_eq_none (by simp; omega)]
section
variable {prog : Program} {w : World} {A : Around} {E : Value → Shared → Prop} {s : Shared}
theorem tup_back {t sl : Addr} {its : Array Value} {vl vu vs : Value} {Q : Value → Shared → Prop} (ht : IsTup s.heap t its) (hs : s.heap.IsSliceOf sl vl vu vs) (pl : IsPart vl none) (pu : IsPart vu none) (ps : IsPart vs (some (-1)))
    (h : Q (.ref s.heap.objs.size) { s with heap := s.heap.push { cls := .type "tuple", data := .seq its.toList.reverse.toArray } }) (hz : its.size ≤ sizeLine) : wpAny (model prog w) A (getItem (.ref t) (.ref sl)) Q E s := by
  have fits : sizeOk (.seq its.toList.reverse.toArray) := by
    show its.toList.reverse.toArray.size ≤ sizeLine
    simpa using hz
  obtain ⟨o, ho, hc, hd⟩ := id hs
  have isSl : s.TypeIs (.ref sl) "slice" := ⟨o, ho, hc⟩
  unfold getItem
  try with_reducible refine wpAny_holding ?_
  first
    | refine wpAny_bind (wpAny_pure ?_)
    | skip
  refine wpAny_bind (wpAny_sequenceKey (T := "tuple") ht.typeIs (by decide) ?_)
  refine wpAny_bind (wpAny_callSpecial?_slot (name := Str.ofString "__getitem__") (T := "tuple") ht.typeIs PyProof.Rows.slot_tuple_getitem ?_)
  refine wpAny_call_entry PyProof.Rows.slot_tuple_getitem (T := "tuple") ht.typeIs entry_tuple_getitem ?_ (args_tuple_getitem _ _)
  show wpAny _ _ (Builtin.Tuple.tupleItemsOf (.ref t) >>= _) _ _ s
  refine wpAny_bind (tupleItemsOf_ ht (wpAny_bind (wpAny_typeOf isSl ?_)))
  rw [if_pos (by decide)]
  refine wpAny_bind (m := Builtin.Slice.sliceApplied (.ref sl) (pure (its.size : Int))) ?_
  unfold Builtin.Slice.sliceApplied Builtin.Slice.sliceFields
  refine wpAny_bind (wpAny_bind (wpAny_field ho hd (x := vl) rfl (wpAny_bind (wpAny_field ho hd (x := vu) rfl (wpAny_bind (wpAny_field ho hd (x := vs) rfl (wpAny_pure ?_)))))))
  refine wpAny_bind (HT.slicePart_ ps ?_)
  show wpAny _ _ (if ((-1 : Int) == 0) = true then _ else _) _ _ s
  rw [if_neg (by decide)]
  refine wpAny_bind (HT.slicePart_ pl (wpAny_bind (HT.slicePart_ pu (wpAny_bind (wpAny_pure ?_)))))
  show wpAny _ _ (match Builtin.Slice.sliceAdjust none none (-1) (its.size : Int) with | (lo, hi) => pure (lo, (-1 : Int), Builtin.Slice.slicePlaces lo hi (-1))) _ _ s
  rw [adj_back]
  show wpAny _ _ (pure ((its.size : Int) - 1, (-1 : Int), Builtin.Slice.slicePlaces ((its.size : Int) - 1) (-1) (-1))) _ _ s
  rw [plc_back]
  refine wpAny_pure ?_
  have no : ¬ ((((its.size : Int) - 1) == 0 && (-1 : Int) == 1 && its.size == its.size) = true) := by simp
  show wpAny _ _ (if ((((its.size : Int) - 1) == 0 && (-1 : Int) == 1 && its.size == its.size) = true) then _ else _) _ _ s
  rw [if_neg no, pick_back]
  first
    | exact wpAny_bind (m := Builtin.Tuple.tupleExact _) (wpAny_newObj_type (wpAny_pure ⟨_, rfl, wpAny_pure h⟩) fits)
    | exact wpAny_bind (m := Builtin.Tuple.tupleExact _) (wpAny_newObj_type (wpAny_bind (wpAny_pure (wpAny_pure ⟨_, rfl, wpAny_pure h⟩))) fits)
    | exact wpAny_bind (wpAny_bind (m := Builtin.Tuple.tupleExact _) (wpAny_newObj_type (wpAny_pure (wpAny_pure ⟨_, rfl, wpAny_pure h⟩)) fits))
    | exact wpAny_bind (wpAny_bind (m := Builtin.Tuple.tupleExact _) (wpAny_newObj_type (wpAny_pure ⟨_, rfl, wpAny_pure h⟩) fits))
end
/-- x[::-1] of a list or a tuple -/
def tRv (K : PySem.W.Frag) (te : TE) : TE := fun σ H Q => te σ H fun x H1 =>
  (∃ a xs, x = .ref a ∧ SqL K H1 a xs ∧ ∀ p, H1 p = none → Q (.ref p) (upd H1 p (.lst xs.reverse))) ∨ (∃ a xs, x = .ref a ∧ SqT K H1 a xs ∧ ∀ p, H1 p = none → Q (.ref p) (upd H1 p (.tup xs.reverse)))
abbrev backSl (k : Nat) (p1 p2 p3 : Pos) : Expr := .Slice none none (some (.UnaryOp .USub (.Constant (.int 1) k p1) p2)) p3
theorem pe_rv {X : Cx} {e : Expr} {te : TE} {k : Nat} {p1 p2 p3 pos : Pos} (he : PE X e te) : PE X (.Subscript e (backSl k p1 p2 p3) pos) (tRv X.K te) := by
  constructor
  intro pins s σ H Q I h
  refine Subscript_ (thn (he.run pins s σ H _ I h) fun v s1 hv => ?_)
  obtain ⟨x, H1, I1, r1, q1⟩ := hv
  have step : PO X (some (.UnaryOp .USub (.Constant (.int 1) k p1) p2)) (tPart (tUn (rU fun i => .int (-i)) (tC (.int 1)))) := po_some (pe_un un_neg pe_int)
  refine wpAny_Slice (thn (po_none.run pins s1 σ H1 (fun o H2 => o = none ∧ H2 = H1) I1 ⟨rfl, rfl⟩) fun vl s2 h2 => ?_)
  obtain ⟨l, H2, I2, pl, el, e2⟩ := h2
  subst el e2
  refine thn (po_none.run pins s2 σ H2 (fun o H3 => o = none ∧ H3 = H2) I2 ⟨rfl, rfl⟩) fun vu s3 h3 => ?_
  obtain ⟨u, H3, I3, pu, eu, e3⟩ := h3
  subst eu e3
  refine thn (step.run pins s3 σ H3 (fun o H4 => o = some (-1) ∧ H4 = H3) I3 ⟨1, rfl, -1, rfl, rfl, rfl⟩) fun vs s4 h4 => ?_
  obtain ⟨o, H4, I4, ps, eo, e4⟩ := h4
  subst eo e4
  have I5 : Inv X pins σ H4 { s4 with heap := s4.heap.push { cls := .type "slice", data := .fields #[vl, vu, vs] } } := I4.kept (t' := s4.toks) fun b ob q => Heap.get?_push_of_some _ q
  rcases q1 with ⟨a, xs, rfl, hx, q⟩ | ⟨a, xs, rfl, hx, q⟩
  · cases r1
    obtain ⟨its, r, ht, hz⟩ := I5.list hx
    have hlen := r.length
    show wpAny (model X.prog X.w) X.A (subscriptTail e (backSl k p1 p2 p3) (.ref a) (.ref s4.heap.objs.size)) (EP X pins σ Q) X.xe _
    refine tail_any (ops := [.ref a, .ref s4.heap.objs.size]) ht.isList.typeIs (PySem.slot_list_getitem.lookup) ?_ (by with_unfolding_all rfl)
    refine wpAny_getItem_list_slice ht.isList (Heap.IsSliceOf.new _ vl vu vs) pl pu ps (by decide) ?_ (by simp; omega)
    rw [PySem.W.krv_pick]
    refine ⟨.ref _, _, I5.laid (t' := s4.toks) (o := .lst xs.reverse) (fun b ob q => Heap.get?_push_of_some _ q) (Nat.le_refl _) ?_, rfl, q _ (I5.hok.fresh (Nat.le_refl _))⟩
    exact ⟨by simpa using hz, _, 0, r.reverse, Heap.get?_push_size _ rfl⟩
  · cases r1
    obtain ⟨its, r, ht, hz⟩ := I5.tuple hx
    have hlen := r.length
    show wpAny (model X.prog X.w) X.A (subscriptTail e (backSl k p1 p2 p3) (.ref a) (.ref s4.heap.objs.size)) (EP X pins σ Q) X.xe _
    refine tail_any (ops := [.ref a, .ref s4.heap.objs.size]) ht.typeIs (PyProof.Rows.slot_tuple_getitem.lookup) ?_ (by with_unfolding_all rfl)
    refine tup_back ht (Heap.IsSliceOf.new _ vl vu vs) pl pu ps ?_ (by simp; omega)
    refine ⟨.ref _, _, I5.laid (t' := s4.toks) (o := .tup xs.reverse) (fun b ob q => Heap.get?_push_of_some _ q) (Nat.le_refl _) ?_, rfl, q _ (I5.hok.fresh (Nat.le_refl _))⟩
    exact ⟨by simpa using hz, _, by simpa using r.reverse, IsTup.new _ _⟩
section
variable {N : Nm} {X : Cx} {T : List (Addr × Str)} {Wx : WX} {f g h : TT.Env → Sto → TT.R W} {a b d : Expr} {pos : Pos}
theorem pe_rev {fz : Bool} {x : TT.E} {k : Nat} {p1 p2 p3 : Pos} (c : TT.Cxt) (ha : PE X a (cE N X.K T Wx (TT.evE c x))) : PE X (.Subscript a (backSl k p1 p2 p3) pos) (cE N X.K T Wx (TT.evE c (.rev fz x))) :=
  PEw (pe_rv ha) fun σ H Q ⟨L, e, s, re, rs, o⟩ => by
    simp only [TT.evE] at o
    refine cE_then re rs o fun w L1 H1 s1 v p1 re1 rs1 rv o1 => ?_
    split at o1
    · obtain ⟨b, xs, rfl, hb, r⟩ := RepD.tup_inv rv
      exact .inr ⟨b, xs, rfl, hb.seq, fun p hp => fin_tup (fz := fz) rs1 o1 r.rev hp⟩
    · split at o1
      · rename_i ds e1
        obtain ⟨b, xs, rfl, hb, r⟩ := lstM_rep rs1 rv e1
        exact .inl ⟨b, xs, rfl, SqL.of hb, fun p hp => fin_fl' rs1 o1 r.rev hp⟩
      · exact False.elim o1
/-! ### slices -/
def cO (N : Nm) (K : PySem.W.Frag) (T : List (Addr × Str)) (Wx : WX) (f : TT.Env → Sto → TT.R (Option Int)) : TO := fun σ H Q =>
  ∃ (L : Loc) (e : TT.Env) (s : Sto), RelE N K L H σ e ∧ RelS N K T L H s ∧ Out N K T L H (fun i _ H' _ => Q i H') (fun c H' => Wx (.ref (N.ea K c)) none σ H') (f e s)
theorem POw {X : Cx} {e : Option Expr} {t t' : TO} (h : PO X e t) (w : ∀ σ H Q, t' σ H Q → t σ H Q) : PO X e t' := ⟨fun pins s σ H Q I q => h.run pins s σ H Q I (w σ H Q q)⟩
theorem po_n (c : TT.Cxt) : PO X none (cO N X.K T Wx (TT.evO c .nil)) := POw po_none fun σ H Q ⟨L, e, s, re, rs, o⟩ => o.here rs
theorem po_s {x : TT.E} {xs : TT.Es} (c : TT.Cxt) (ha : PE X a (cE N X.K T Wx (TT.evE c x))) : PO X (some a) (cO N X.K T Wx (TT.evO c (.cons x xs))) :=
  POw (po_some ha) fun σ H Q ⟨L, e, s, re, rs, o⟩ => by
    simp only [TT.evO] at o
    refine cE_then re rs o fun w L1 H1 s1 v p1 re1 rs1 rv o1 => ?_
    unfold TT.asI at o1
    split at o1
    · exact ⟨_, RepD.int_inv rv, o1.here rs1⟩
    · exact False.elim o1
theorem sIx_eq (n d : Nat) (o : Option Int) : TT.sIx n d o = HT.sIx n d o := by cases o <;> rfl
theorem cut_eq (xs : List L2.V) (l h : Option Int) : TT.cut xs l h = cutV xs l h := by
  unfold TT.cut cutV
  rw [sIx_eq, sIx_eq]
theorem cut_rep {K : PySem.W.Frag} {L : Loc} {H : Hp} {xs : List L2.V} {ds : List D} (r : RepDs N K L H xs ds) (l h : Option Int) : RepDs N K L H (cutV xs l h) (TT.cut ds l h) := by
  rw [← cut_eq]
  unfold TT.cut
  rw [r.len]
  exact (r.drop _).take _
theorem pe_slc {fz : Bool} {x : TT.E} {xl xh : TT.Es} {lo hi : Option Expr} {p2 : Pos} (c : TT.Cxt) (ha : PE X a (cE N X.K T Wx (TT.evE c x))) (hl : PO X lo (cO N X.K T Wx (TT.evO c xl))) (hh : PO X hi (cO N X.K T Wx (TT.evO c xh))) :
    PE X (.Subscript a (.Slice lo hi none p2) pos) (cE N X.K T Wx (TT.evE c (.slc fz x xl xh))) := by
  refine PEw (pe_slice (sl_tupA.or (sl_list.or sl_str)) ha hl hh) fun σ H Q ⟨L, e, s, re, rs, o⟩ => ?_
  simp only [TT.evE] at o
  refine cE_then re rs o fun w L1 H1 s1 v p1 re1 rs1 rv o1 => ⟨L1, e, s1, re1, rs1, (Out.bind o1).mono (fun l L2 H2 s2 p2 rs2 o2 => ⟨L2, e, s2, re1.pst p2, rs2, (Out.bind o2).mono (fun h L3 H3 s3 p3 rs3 o3 => ?_) fun _ _ x => x⟩) fun _ _ x => x⟩
  have rv3 := (rv.pst p2).pst p3
  split at o3
  · rename_i ds
    obtain ⟨b, xs, rfl, hb, r⟩ := RepD.tup_inv rv3
    refine .inl ⟨b, xs, rfl, hb.seq, fun hw => ?_, fun _ p hp => fin_tup (fz := fz) rs3 o3 (cut_rep r l h) hp⟩
    have e : TT.cut ds l h = ds := by
      unfold TT.cut
      rw [sIx_eq, sIx_eq, ← r.len, hw.1, hw.2]
      simp [r.len]
    rw [e] at o3
    exact o3.here rs3 _ rv3
  · split at o3
    · rename_i z hs
      have := small_le hs
      refine .inr (.inr ⟨z, RepD.str_inv rv3, by rw [sizeLine_eq]; omega, ?_⟩)
      have e : (⟨(TT.cut z.cps.toList l h).toArray⟩ : Str) = cutS z l h := by
        unfold TT.cut cutS
        rw [sIx_eq, sIx_eq]
        rfl
      rw [e] at o3
      exact o3.here rs3 _ (.str _)
    · exact False.elim o3
  · split at o3
    · rename_i ds e1
      obtain ⟨b, xs, rfl, hb, r⟩ := lstM_rep rs3 rv3 e1
      exact .inr (.inl ⟨b, xs, rfl, SqL.of hb, fun p hp => fin_fl' rs3 o3 (cut_rep r l h) hp⟩)
    · exact False.elim o3
end
end TS

set_option maxRecDepth 100000
/-! Attributes, methods, calls, new instances. -/
namespace TS
open PySem PySem.Spec PyProof.Rows L2
/-- what the names and classes of a program keep -/
structure NmOk (N : Nm) (K : PySem.W.Frag) : Prop where
  inj : ∀ i j, N.an i = N.an j → i = j
  dis : ∀ i m, N.an i ≠ N.mn m
  cls : ∀ c, c < N.cs.length → Cls K (N.ca K c)
  noat : ∀ c f, c < N.cs.length → f < N.as.length → NoAttr K (N.ca K c) (N.an f)
section
variable {N : Nm} {K : PySem.W.Frag} {T : List (Addr × Str)} {L L' : Loc} {H H' : Hp} {s : Sto}
theorem objOf_rep {v : L2.V} {w : W} {c : Nat} {ks : List Nat} {vs : List D} (z : RelS N K T L H s) (r : RepW N K L H v w) (h : TT.objOf s w = some (c, ks, vs)) :
    ∃ a dx fs, v = .ref a ∧ c < N.cs.length ∧ H a = some (.ins (N.ca K c) dx fs) ∧ fs.map (·.1) = ks.map N.an ∧ RepDs N K L H (fs.map (·.2)) vs := by
  cases w with
  | d x =>
    cases x <;> simp [TT.objOf] at h
    obtain ⟨rfl, rfl, rfl⟩ := h
    cases r with
    | obj hc n e f r => exact ⟨_, _, _, rfl, hc, e, f, r⟩
  | loc l =>
    obtain ⟨a, e, rfl⟩ := r
    simp only [TT.objOf] at h
    split at h
    · rename_i c' ks' vs' e'
      simp only [Option.some.injEq, Prod.mk.injEq] at h
      obtain ⟨rfl, rfl, rfl⟩ := h
      obtain ⟨b, f, _, m⟩ := z.loc e' (fun q => nomatch q)
      rw [e] at f; cases f
      cases m with
      | obj hc e f r => exact ⟨_, _, _, rfl, hc, e, f, r⟩
    · cases h
theorem fld_rep (ok : NmOk N K) {f : Nat} {d : D} : ∀ {fs : List (Str × L2.V)} {ks : List Nat} {vs : List D}, fs.map (·.1) = ks.map N.an → RepDs N K L H (fs.map (·.2)) vs → TT.look f ks vs = some d → ∃ v, fs.lookup (N.an f) = some v ∧ RepD N K L H v d
  | [], ks, vs, e, r, h => by
    cases ks with
    | nil => simp [TT.look] at h
    | cons k ks => simp at e
  | p :: fs, [], vs, e, r, h => by simp at e
  | p :: fs, k :: ks, [], e, r, h => by simp [TT.look] at h
  | (x, v) :: fs, k :: ks, d' :: vs, e, r, h => by
    simp only [List.map_cons, List.cons.injEq] at e
    cases r with
    | cons r t =>
      simp only [TT.look] at h
      have ex : x = N.an k := e.1
      by_cases q : k = f
      · rw [if_pos q] at h
        cases h
        refine ⟨v, ?_, r⟩
        rw [List.lookup_cons, ex, q]
        simp
      · rw [if_neg q] at h
        obtain ⟨u, h1, h2⟩ := fld_rep ok e.2 t h
        refine ⟨u, ?_, h2⟩
        rw [List.lookup_cons, ex]
        have ne : (N.an f == N.an k) = false := beq_eq_false_iff_ne.mpr fun z => q (ok.inj _ _ z).symm
        rw [ne]
        exact h1
theorem no_meth (ok : NmOk N K) {m : Nat} : ∀ {fs : List (Str × L2.V)} {ks : List Nat}, fs.map (·.1) = ks.map N.an → fs.lookup (N.mn m) = none
  | [], _, _ => rfl
  | (x, v) :: fs, [], e => by simp at e
  | (x, v) :: fs, k :: ks, e => by
    simp only [List.map_cons, List.cons.injEq] at e
    rw [List.lookup_cons]
    have ex : x = N.an k := e.1
    have ne : (N.mn m == x) = false := beq_eq_false_iff_ne.mpr fun z => ok.dis k m (by rw [← ex, z])
    rw [ne]
    exact no_meth ok e.2
end
/-- the promise of a def: it does what the small language says -/
def spF (N : Nm) (K : PySem.W.Frag) (T : List (Addr × Str)) (φ : List W → Sto → TT.R W) : Sp := fun vs H Q E =>
  ∃ (L : Loc) (ws : List W) (s : Sto), RepWs N K L H vs ws ∧ RelS N K T L H s ∧ Out N K T L H (okW N K Q) (fun c H' => E (.ref (N.ea K c)) none H') (φ ws s)
section
variable {N : Nm} {X : Cx} {T : List (Addr × Str)} {Wx : WX} {f g h : TT.Env → Sto → TT.R W} {a b d : Expr} {pos : Pos}
theorem pe_at {x : TT.E} {k : Nat} {m : Str} (ok : NmOk N X.K) (c : TT.Cxt) (ha : PE X a (cE N X.K T Wx (TT.evE c x))) (hb : noCall a = true) (hk : k < N.as.length) (hm : m = N.an k) : PE X (.Attribute a m pos) (cE N X.K T Wx (TT.evE c (.attr x k))) := by
  subst hm
  refine PEw (pe_fld ha (attr_base hb)) fun σ H Q ⟨L, e, s, re, rs, o⟩ => ?_
  simp only [TT.evE] at o
  refine cE_then re rs o fun w L1 H1 s1 v p1 re1 rs1 rv o1 => ?_
  split at o1
  · rename_i cl ks vs e1
    obtain ⟨p, dx, fs, rfl, hc, hp, en, r⟩ := objOf_rep rs1 rv e1
    cases e2 : TT.look k ks vs with
    | none => rw [e2] at o1; exact False.elim o1
    | some d =>
      rw [e2] at o1
      obtain ⟨u, h1, h2⟩ := fld_rep ok en r e2
      exact ⟨p, _, dx, fs, u, rfl, hp, ok.cls _ hc, ok.noat _ _ hc hk, h1, o1.here rs1 u h2⟩
  · exact False.elim o1
/-! ### methods of lists -/
def bmOf : TT.Op → Option (Str × String)
  | .append => some ("append", "list.append")
  | .pop => some ("pop", "list.pop")
  | .extend => some ("extend", "list.extend")
  | .index => some ("index", "list.index")
  | .count => some ("count", "list.count")
  | _ => none
theorem recv_ty {K : PySem.W.Frag} {o : TT.Op} {L : Loc} {H : Hp} {s : Sto} {v : L2.V} {w : W} (z : RelS N K T L H s) (r : RepW N K L H v w) (h : TT.recvOk o w s = true) : tyV K "list" v H := by
  have h' : (TT.lstOf s w).isSome = true := by
    unfold TT.recvOk at h
    split at h <;> first | exact h | cases h
  obtain ⟨ds, e⟩ := Option.isSome_iff_exists.mp h'
  obtain ⟨a, xs, rfl, hs, _⟩ := lstOf_rep z r e
  exact .inl ⟨rfl, xs, hs⟩
theorem bm0_then {K : PySem.W.Frag} {o : TT.Op} {fz : Bool} {x : TT.E} {r : L2.V → List L2.V → Hp → VK → Prop} (c : TT.Cxt)
    (hr : ∀ (fz : Bool) (L : Loc) (H : Hp) (s : Sto) (x : L2.V) (xs : List L2.V) (wx : W) (ws : List W) (Q : VK) (er : Nat → Hp → Prop), RelS N K T L H s → RepW N K L H x wx → RepWs N K L H xs ws →
      Out N K T L H (okW N K Q) er ((TT.opSem o (wx :: ws) s).bind (TT.fin fz)) → r x xs H Q)
    (σ : L2.St) (H : Hp) (Q : VK) (q : cE N K T Wx (TT.evE c (.bm fz o x .nil)) σ H Q) : tBM0 K "list" r (cE N K T Wx (TT.evE c x)) σ H Q := by
  obtain ⟨L, e, s, re, rs, q⟩ := q
  simp only [TT.evE, TT.evEs] at q
  refine cE_then re rs q fun w L1 H1 s1 v p1 re1 rs1 rv q1 => ?_
  split at q1
  · rename_i hc
    exact ⟨recv_ty rs1 rv hc, hr fz L1 H1 s1 v [] w [] Q _ rs1 rv .nil q1⟩
  · exact False.elim q1
theorem bm1_then {K : PySem.W.Frag} {o : TT.Op} {fz : Bool} {x : TT.E} {xs : TT.Es} {r : L2.V → List L2.V → Hp → VK → Prop} (c : TT.Cxt)
    (hr : ∀ (fz : Bool) (L : Loc) (H : Hp) (s : Sto) (x : L2.V) (xs : List L2.V) (wx : W) (ws : List W) (Q : VK) (er : Nat → Hp → Prop), RelS N K T L H s → RepW N K L H x wx → RepWs N K L H xs ws →
      Out N K T L H (okW N K Q) er ((TT.opSem o (wx :: ws) s).bind (TT.fin fz)) → r x xs H Q)
    (σ : L2.St) (H : Hp) (Q : VK) (q : cE N K T Wx (TT.evE c (.bm fz o x xs)) σ H Q) : tBM K "list" r (cE N K T Wx (TT.evE c x)) (cA N K T Wx (TT.evEs c xs)) σ H Q := by
  obtain ⟨L, e, s, re, rs, q⟩ := q
  simp only [TT.evE] at q
  refine cE_then re rs q fun w L1 H1 s1 v p1 re1 rs1 rv q1 => ?_
  split at q1
  · rename_i hc
    exact ⟨recv_ty rs1 rv hc, evs_then c re1 rs1 q1 fun ws L2 H2 s2 vs _ p2 re2 rs2 rw2 q2 => hr fz L2 H2 s2 v vs w ws Q _ rs2 (rv.pst p2) rw2 q2⟩
  · exact False.elim q1
theorem pe_pop {fz : Bool} {x : TT.E} {apos : Pos} (c : TT.Cxt) (ha : PE X a (cE N X.K T Wx (TT.evE c x))) (hb : noCall a = true) (hl : (apos.endLine == pos.line) = true) :
    PE X (.Call (.Attribute a "pop" apos) [] [] pos) (cE N X.K T Wx (TT.evE c (.bm fz .pop x .nil))) := by
  obtain ⟨r, hm, hr⟩ := snd_pop (N := N) (X := X) (T := T)
  exact PEw (pe_bm0 PySem.F.plainAttrs_list PySem.F.slot_list_pop PySem.F.type_list_pop hm ha (attr_base hb) hl) (bm0_then (r := r) c hr)
theorem pe_bm1 {o : TT.Op} {m : Str} {q : String} {fz : Bool} {x : TT.E} {xs : TT.Es} {es : List Expr} {apos : Pos} (c : TT.Cxt) (slot : Slot "list" m q) (hty : typeOf (.builtin q) = pure (.type "method_descriptor")) (hk : SndM N X T q (fun x ws s => TT.opSem o (x :: ws) s))
    (ha : PE X a (cE N X.K T Wx (TT.evE c x))) (hx : PA X (b :: es) (cA N X.K T Wx (TT.evEs c xs))) (hb : noCall a = true) (hl : (apos.endLine == pos.line) = true) (hs : (b :: es).all noStar = true) (hn : es.length < 20) :
    PE X (.Call (.Attribute a m apos) (b :: es) [] pos) (cE N X.K T Wx (TT.evE c (.bm fz o x xs))) := by
  obtain ⟨r, hm, hr⟩ := hk
  have hs1 : noStar b = true := by
    simp only [List.all_cons, Bool.and_eq_true] at hs
    exact hs.1
  have hs2 : es.all noStar = true := by
    simp only [List.all_cons, Bool.and_eq_true] at hs
    exact hs.2
  refine PEw (pe_bm PySem.F.plainAttrs_list slot hty hm ha hx (attr_base hb) ?_ hl (star1 hs1) (back_any hs2)) (bm1_then (r := r) c hr)
  rw [back_all hs]
  simp [backToKw, keywordEach]
  omega
theorem pe_ap {fz : Bool} {x y : TT.E} {apos : Pos} (c : TT.Cxt) (ha : PE X a (cE N X.K T Wx (TT.evE c x))) (hx : PA X [b] (cA N X.K T Wx (TT.evEs c (.cons y .nil)))) (hb : noCall a = true) (hl : (apos.endLine == pos.line) = true) (hs : noStar b = true) :
    PE X (.Call (.Attribute a "append" apos) [b] [] pos) (cE N X.K T Wx (TT.evE c (.bm fz .append x (.cons y .nil)))) :=
  pe_bm1 c PySem.F.slot_list_append PySem.F.type_list_append snd_append ha hx hb hl (by simp [hs]) (by simp)
theorem pe_ex {fz : Bool} {x y : TT.E} {apos : Pos} (c : TT.Cxt) (ha : PE X a (cE N X.K T Wx (TT.evE c x))) (hx : PA X [b] (cA N X.K T Wx (TT.evEs c (.cons y .nil)))) (hb : noCall a = true) (hl : (apos.endLine == pos.line) = true) (hs : noStar b = true) :
    PE X (.Call (.Attribute a "extend" apos) [b] [] pos) (cE N X.K T Wx (TT.evE c (.bm fz .extend x (.cons y .nil)))) :=
  pe_bm1 c PySem.F.slot_list_extend PySem.F.type_list_extend snd_extend ha hx hb hl (by simp [hs]) (by simp)
theorem pe_idx {fz : Bool} {x y : TT.E} {apos : Pos} (c : TT.Cxt) (hu : X.A.units + 65 < cLine) (ha : PE X a (cE N X.K T Wx (TT.evE c x))) (hx : PA X [b] (cA N X.K T Wx (TT.evEs c (.cons y .nil)))) (hb : noCall a = true) (hl : (apos.endLine == pos.line) = true) (hs : noStar b = true) :
    PE X (.Call (.Attribute a "index" apos) [b] [] pos) (cE N X.K T Wx (TT.evE c (.bm fz .index x (.cons y .nil)))) :=
  pe_bm1 c PySem.F.slot_list_index PySem.F.type_list_index (snd_indexU hu) ha hx hb hl (by simp [hs]) (by simp)
theorem pe_cnt {fz : Bool} {x y : TT.E} {apos : Pos} (c : TT.Cxt) (ha : PE X a (cE N X.K T Wx (TT.evE c x))) (hx : PA X [b] (cA N X.K T Wx (TT.evEs c (.cons y .nil)))) (hb : noCall a = true) (hl : (apos.endLine == pos.line) = true) (hs : noStar b = true) :
    PE X (.Call (.Attribute a "count" apos) [b] [] pos) (cE N X.K T Wx (TT.evE c (.bm fz .count x (.cons y .nil)))) :=
  pe_bm1 c PySem.F.slot_list_count PySem.F.type_list_count snd_count ha hx hb hl (by simp [hs]) (by simp)
/-! ### calls -/
theorem pe_cl {k : Nat} {fa : Addr} {fd : FuncData} {ps : List Str} {x : Str} {n : Nat} {xs : TT.Es} {es : List Expr} {p : Pos} (c : TT.Cxt) (F : FnOk X.prog X.w X.K X.mg X.base (L2.CX X.prog X.w) k fa fd ps (spF N X.K T (c.F 0 n))) (hr : Room k X.A) (hg : Gl X x) (hm : X.mg x = some (.ref fa))
    (hk : PySem.W.keepIn X.K (.ref fa) = true) (hb : Binds X.K fd ps []) (tk : L2.Takes X Wx) (ha : PA X (a :: es) (cA N X.K T Wx (TT.evEs c xs))) (hd : (x == ("__debug__" : Str)) = false) (hs : (a :: es).all noStar = true) :
    PE X (.Call (.Name x p) (a :: es) [] pos) (cE N X.K T Wx (TT.evE c (.call n xs))) := by
  simp only [List.all_cons, Bool.and_eq_true] at hs
  refine PEw (pe_callS F hr hg hm hk hb (fun σ => L2.passAt tk σ) ha hd (star1 hs.1) (back_any hs.2)) fun σ H Q ⟨L, e, s, re, rs, o⟩ => ?_
  simp only [TT.evE] at o
  exact evs_then c re rs o fun ws L1 H1 s1 vs _ p1 re1 rs1 rv o1 => ⟨L1, ws, s1, rv, rs1, o1⟩
/-- f() -/
theorem pe_cl0 {k : Nat} {fa : Addr} {fd : FuncData} {ps : List Str} {x : Str} {n : Nat} {p : Pos} (c : TT.Cxt) (F : FnOk X.prog X.w X.K X.mg X.base (L2.CX X.prog X.w) k fa fd ps (spF N X.K T (c.F 0 n))) (hr : Room k X.A) (hg : Gl X x) (hm : X.mg x = some (.ref fa))
    (hk : PySem.W.keepIn X.K (.ref fa) = true) (hb : Binds X.K fd ps []) (tk : L2.Takes X Wx) (hd : (x == ("__debug__" : Str)) = false) :
    PE X (.Call (.Name x p) [] [] pos) (cE N X.K T Wx (TT.evE c (.call n .nil))) := by
  constructor
  intro pins s σ H Q I h
  obtain ⟨L, e, st, re, rs, o⟩ := h
  simp only [TT.evE, TT.evEs, TT.R.bind_ok] at o
  refine wpAny_Call_Name_kw (ld_glob I hg hm ?_ hd)
  exact PySem.W.callWith_K0 I.kIn hk (run_fnS (us := []) (vs := []) F hr hb (E := fun σ => WE Wx σ) (L2.passAt tk σ) I .nil ⟨L, [], st, .nil, rs, o⟩)
/-- what is known of the method m of a class: its def -/
structure MethAt (N : Nm) (X : Cx) (T : List (Addr × Str)) (k : Nat) (c : TT.Cxt) (cl m n : Nat) : Prop where
  ex : ∃ (fa : Addr) (fd : FuncData) (ps : List Str), Meth X.K (N.ca X.K cl) (N.mn m) fa ∧ FnOk X.prog X.w X.K X.mg X.base (L2.CX X.prog X.w) k fa fd ps (spF N X.K T (c.F 0 n)) ∧ Binds X.K fd ps []
/-- the way from an instance to its method -/
theorem mt_then {K : PySem.W.Frag} {x : TT.E} {xs : TT.Es} {m : Nat} {σ : L2.St} {H : Hp} {L : Loc} {e : TT.Env} {st : Sto} {Q : VK} {R : L2.V → Hp → Prop} (ok : NmOk N K) (c : TT.Cxt) (re : RelE N K L H σ e) (rs : RelS N K T L H st)
    (o : Out N K T L H (okW N K Q) (fun c H' => Wx (.ref (N.ea K c)) none σ H') (TT.evE c (.meth x m xs) e st))
    (q : ∀ (w : W) (L1 : Loc) (H1 : Hp) (s1 : Sto) (p : Addr) (cl n : Nat) (dx : Addr) (fs : List (Str × L2.V)), RelE N K L1 H1 σ e → RelS N K T L1 H1 s1 → RepW N K L1 H1 (.ref p) w → c.P.meth cl m = some n → cl < N.cs.length →
      H1 p = some (.ins (N.ca K cl) dx fs) → fs.lookup (N.mn m) = none → Out N K T L1 H1 (okW N K Q) (fun c H' => Wx (.ref (N.ea K c)) none σ H') ((TT.evEs c xs e s1).bind fun ws s => c.F 0 n (w :: ws) s) → R (.ref p) H1) : cE N K T Wx (TT.evE c x) σ H R := by
  simp only [TT.evE] at o
  refine cE_then re rs o fun w L1 H1 s1 v p1 re1 rs1 rv o1 => ?_
  split at o1
  · rename_i cl ks vs e1
    split at o1
    · rename_i n e2
      obtain ⟨pa, dx, fs, rfl, hc, hp, en, r⟩ := objOf_rep rs1 rv e1
      exact q w L1 H1 s1 pa cl n dx fs re1 rs1 rv e2 hc hp (no_meth ok en) o1
    · exact False.elim o1
  · exact False.elim o1
theorem pe_mt0 {k : Nat} {x : TT.E} {m : Nat} {mn : Str} {apos : Pos} (ok : NmOk N X.K) (c : TT.Cxt) (hmn : mn = N.mn m) (M : ∀ cl n, c.P.meth cl m = some n → MethAt N X T k c cl m n) (hr : Room k X.A) (tk : L2.Takes X Wx) (ha : PE X a (cE N X.K T Wx (TT.evE c x)))
    (h1 : noCall a = true) (h4 : (apos.endLine == pos.line) = true) : PE X (.Call (.Attribute a mn apos) [] [] pos) (cE N X.K T Wx (TT.evE c (.meth x m .nil))) := by
  subst hmn
  constructor
  intro pins s σ H Q I h
  obtain ⟨L, e, st, re, rs, o⟩ := h
  refine methcall_of ha I (pl := plainOf a X.env) ?_ (meth_form h1 rfl (by simp) h4)
  refine mt_then ok c re rs o fun w L1 H1 s1 pa cl n dx fs re1 rs1 rv e2 hc hp nm o1 => ?_
  obtain ⟨fa, fd, ps, hM, F, B⟩ := (M cl n e2).ex
  refine ⟨pa, _, dx, fs, fa, rfl, hp, ok.cls _ hc, hM, nm, fun s2 I2 => ?_⟩
  simp only [TT.evEs, TT.R.bind_ok] at o1
  exact PySem.W.callWith_K0 (first := [.ref pa]) I2.kIn hM.kp (run_fnS (us := [.ref pa]) (vs := [.ref pa]) F hr B (E := fun σ => WE Wx σ) (L2.passAt tk σ) I2 (.cons rfl .nil) ⟨L1, [w], s1, .cons rv .nil, rs1, o1⟩)
theorem pe_mt {k : Nat} {x : TT.E} {xs : TT.Es} {es : List Expr} {m : Nat} {mn : Str} {apos : Pos} (ok : NmOk N X.K) (c : TT.Cxt) (hmn : mn = N.mn m) (M : ∀ cl n, c.P.meth cl m = some n → MethAt N X T k c cl m n) (hr : Room k X.A) (tk : L2.Takes X Wx) (ha : PE X a (cE N X.K T Wx (TT.evE c x)))
    (hx : PA X (b :: es) (cA N X.K T Wx (TT.evEs c xs))) (h1 : noCall a = true) (h2 : (b :: es).all noStar = true) (h3 : es.length < 20) (h4 : (apos.endLine == pos.line) = true) :
    PE X (.Call (.Attribute a mn apos) (b :: es) [] pos) (cE N X.K T Wx (TT.evE c (.meth x m xs))) := by
  subst hmn
  constructor
  intro pins s σ H Q I h
  obtain ⟨L, e, st, re, rs, o⟩ := h
  refine methcall_of ha I (pl := plainOf a X.env) ?_ (meth_form h1 h2 (by simp; omega) h4)
  refine mt_then ok c re rs o fun w L1 H1 s1 pa cl n dx fs re1 rs1 rv e2 hc hp nm o1 => ?_
  obtain ⟨fa, fd, ps, hM, F, B⟩ := (M cl n e2).ex
  refine ⟨pa, _, dx, fs, fa, rfl, hp, ok.cls _ hc, hM, nm, fun s2 I2 => ?_⟩
  simp only [List.all_cons, Bool.and_eq_true] at h2
  refine PySem.W.callWith_K (first := [.ref pa]) (h₀ := X.base) I2.ok.mod.kin hM.kp ?_ (star1 h2.1) (back_any h2.2)
  refine thn (hx.run pos pins s2 σ H1 (fun us H2 => spF N X.K T (c.F 0 n) (.ref pa :: us) H2 Q (WE Wx σ)) I2
    (evs_then c re1 rs1 o1 fun ws' L2 H2 s4 us _ p2 re2 rs2 ru o2 => ⟨L2, w :: ws', s4, .cons (rv.pst p2) ru, rs2, o2⟩)) fun us s3 hq => ?_
  obtain ⟨vs', H2, I4, ru, sp⟩ := hq
  exact ⟨I4.kIn, run_fnS (us := .ref pa :: us) (vs := .ref pa :: vs') F hr B (E := fun σ => WE Wx σ) (L2.passAt tk σ) I4 (.cons rfl ru) sp⟩
/-! ### new instances -/
/-- C(..) at the slots σ: what may be let out is told of them -/
theorem make_at {CX : CXT} {k : Nat} {f C : Addr} {fd : FuncData} {ps : List Str} {sp : Sp} {E : XK} {pins : List (Addr × Obj)} {σ : L2.St} {H : Hp} {s : Shared} {Q : VK} {us : List Value} {vs : List L2.V} (M : Mk X.K C f) (F : FnOk X.prog X.w X.K X.mg X.base CX k f fd ps sp) (hr : Room (k + 1) X.A) (hb : Binds X.K fd ps [])
    (hx : PassesAt CX X σ E) (I : Inv X pins σ H s) (r : Vals vs us)
    (h : ∀ x dx, H x = none → H dx = none → dx ≠ x → sp (.ref x :: vs) (upd (upd H dx (.own x)) x (.ins C dx [])) (fun v H2 => v = .non ∧ Q (.ref x) H2) E) :
    wpAny (model X.prog X.w) X.A (call (.ref C) us) (EP X pins σ Q) X.xe s := by
  have n := s.heap.objs.size
  have q := h (s.heap.objs.size + 1) s.heap.objs.size (I.hok.fresh (Nat.le_succ _)) (I.hok.fresh (Nat.le_refl _)) (Nat.ne_of_lt (Nat.lt_succ_self _))
  have I2 := Inv.made (C := C) I
  have rr : Vals (V.ref (s.heap.objs.size + 1) :: vs) (Value.ref (s.heap.objs.size + 1) :: us) := .cons rfl r
  have ln : (Value.ref (s.heap.objs.size + 1) :: us).length = ps.length := by
    rw [← F.len _ _ _ _ q]
    exact rr.length.symm
  have bd := hb _ (Value.ref (s.heap.objs.size + 1) :: us) I2.kIn (by rw [List.append_nil]; exact ln)
  rw [List.append_nil] at bd
  have run := F.run _ X.stack _ _ ⟨Value.ref (s.heap.objs.size + 1) :: us, []⟩ (Value.ref (s.heap.objs.size + 1) :: us) _ _ E (hr.make C us []) (I2.env0.make C us []) bd rr q
  refine wpAny_call (make_map (f := f) I.kIn M.makes M.init (beq_iff_eq.mp M.fn) (codeAny_mono run fun r s' hq => ?_))
  cases r with
  | error e => exact hx pins _ _ e s' I2 hq
  | ok fl =>
    cases fl with
    | ret u =>
      obtain ⟨v, H', I3, rv, ev, q3⟩ := I2.after hq
      subst ev
      exact ⟨rv, ⟨V.ref (s.heap.objs.size + 1), H', I3, rfl, q3⟩⟩
    | next => exact False.elim hq
    | brk => exact False.elim hq
    | cont => exact False.elim hq
/-- the state where an instance is laid -/
theorem laid_ins {K : PySem.W.Frag} {L : Loc} {H : Hp} {s : Sto} {x dx : Addr} {cl : Nat} (rs : RelS N K T L H s) (hx : H x = none) (hd : H dx = none) (ne : dx ≠ x) (hc : cl < N.cs.length) :
    Pst L (L ++ [some x]) H (upd (upd H dx (.own x)) x (.ins (N.ca K cl) dx [])) ∧ RelS N K T (L ++ [some x]) (upd (upd H dx (.own x)) x (.ins (N.ca K cl) dx [])) (s ++ [.obj cl [] []]) := by
  have hx' : upd H dx (.own x) x = none := by rw [upd_ne ne.symm]; exact hx
  exact ⟨(Pst.new_ hd).trans (Pst.grow hx'), (rs.new_ hd).grow hx' (show isMut (.ins (N.ca K cl) dx []) from trivial) (.obj hc upd_same rfl .nil)⟩
theorem mem_dl {α : Type} {a : α} {l : List α} (h : a ∈ l.dropLast) : a ∈ l := List.dropLast_subset l h
theorem pe_nw {k : Nat} {cl : Nat} {fz : Bool} {n : Nat} {fi : Addr} {fd : FuncData} {ps : List Str} {x : Str} {xs : TT.Es} {es : List Expr} {p : Pos} (c : TT.Cxt) (hc : cl < N.cs.length) (hi : c.P.init cl = some n) (M : Mk X.K (N.ca X.K cl) fi)
    (F : FnOk X.prog X.w X.K X.mg X.base (L2.CX X.prog X.w) k fi fd ps (spF N X.K T (c.F 1 n))) (hr : Room (k + 1) X.A) (hg : Gl X x) (hm : X.mg x = some (.ref (N.ca X.K cl))) (hb : Binds X.K fd ps []) (tk : L2.Takes X Wx)
    (ha : PA X (a :: es) (cA N X.K T Wx (TT.evEs c xs))) (hd : (x == ("__debug__" : Str)) = false) (hs : (a :: es).all noStar = true) :
    PE X (.Call (.Name x p) (a :: es) [] pos) (cE N X.K T Wx (TT.evE c (.new fz cl xs))) := by
  simp only [List.all_cons, Bool.and_eq_true] at hs
  constructor
  intro pins s σ H Q I h
  obtain ⟨L, e, st, re, rs, o⟩ := h
  simp only [TT.evE, hi] at o
  refine wpAny_Call_Name_kw (ld_glob I hg hm ?_ hd)
  refine PySem.W.callWith_K (h₀ := X.base) I.ok.mod.kin M.kp ?_ (star1 hs.1) (back_any hs.2)
  refine thn (ha.run pos pins s σ H (fun vs H1 => ∀ x dx, H1 x = none → H1 dx = none → dx ≠ x → spF N X.K T (c.F 1 n) (.ref x :: vs) (upd (upd H1 dx (.own x)) x (.ins (N.ca X.K cl) dx [])) (fun v H2 => v = .non ∧ Q (.ref x) H2) (WE Wx σ)) I
    (evs_then c re rs o fun ws L1 H1 s1 vs _ p1 re1 rs1 rv o1 x dx hx hdx ne => ?_)) fun us s1 hq => ?_
  · obtain ⟨pp, rr⟩ := laid_ins (T := T) rs1 hx hdx ne hc
    refine ⟨L1 ++ [some x], .loc s1.length :: ws, s1 ++ [.obj cl [] []], .cons ⟨x, by rw [← rs1.len]; simp, rfl⟩ (rv.pst pp), rr, ?_⟩
    cases hr2 : c.F 1 n (.loc s1.length :: ws) (s1 ++ [.obj cl [] []]) with
    | no => rw [hr2] at o1; exact o1
    | err y s2 => rw [hr2] at o1; exact fun L2 H2 p2 rs2 => o1 L2 H2 (pp.trans p2) rs2
    | ok w s2 =>
    rw [hr2] at o1
    intro L2 H2 p2 rs2 v hv
    simp only [TT.R.bind_ok] at o1
    have o3 := o1
    split at o3
    · refine ⟨RepD.non_inv hv, ?_⟩
      have at_x : L2[s1.length]? = some (some x) := by
        obtain ⟨Y, e2⟩ := p2.pre
        rw [e2, ← rs1.len, List.append_assoc]
        simp
      cases fz with
      | false => exact o3 L2 H2 (pp.trans p2) rs2 (.ref x) ⟨x, at_x, rfl⟩
      | true =>
        simp only [if_true] at o3
        split at o3
        · rename_i hl
          split at o3
          · rename_i c' ks vs' e3
            obtain ⟨b, eb, mb, rm⟩ := rs2.loc e3 (fun q => nomatch q)
            rw [at_x] at eb; cases eb
            have len2 : L2.length = s1.length + 1 := by rw [rs2.len, hl]
            have eL : L2.dropLast = L1 := by
              obtain ⟨Y, e2⟩ := p2.pre
              have : Y = [] := by
                have := congrArg List.length e2
                rw [len2] at this
                simp [rs1.len] at this
                exact this
              rw [e2, this]
              simp
            cases rm with
            | obj hc' hh en rd =>
              have nin : some x ∉ L1 := fresh_notin rs1 hx
              have kp : Keeps L2 L1 H2 H2 := ⟨fun a _ na _ _ z => na (by rw [← eL] at z; exact mem_dl z), fun a o h _ _ => h⟩
              have p3 : Pst L1 L1 H1 H2 := by
                refine ⟨⟨[], by simp⟩, fun a h => .inl h, fun a o h na nt => ?_, (pp.trans p2).thr⟩
                by_cases ex : a = x
                · rw [ex, hx] at h; cases h
                · exact (pp.trans p2).fr a o h na nt
              have rs3 : RelS N X.K T L1 H2 s2.dropLast := by
                refine ⟨?_, fun l k a h1 h2 => ?_, fun a h => ?_, fun l m hm' nd => ?_, rs2.tabs⟩
                · rw [List.length_dropLast, hl, rs1.len]; rfl
                · rw [← eL] at h1 h2
                  rw [List.getElem?_dropLast] at h1 h2
                  split at h1 <;> split at h2 <;> first | exact rs2.uniq l k a h1 h2 | cases h1 | cases h2
                · exact rs2.there a (by rw [← eL] at h; exact mem_dl h)
                · rw [List.getElem?_dropLast] at hm'
                  split at hm'
                  · rename_i hlt
                    obtain ⟨a', ea, ra⟩ := rs2.at_ l m hm' nd
                    refine ⟨a', ?_, ra.keeps kp rfl⟩
                    rw [← eL, List.getElem?_dropLast, if_pos (by rw [len2]; omega)]
                    exact ea
                  · cases hm'
              exact o3 L1 H2 p3 rs3 (.ref x) (RepD.obj hc' nin hh en (rd.keeps kp))
          · exact False.elim o3
        · exact False.elim o3
    · exact False.elim o3
  · obtain ⟨vs, H1, I1, r, q⟩ := hq
    exact ⟨I1.kIn, make_at M F hr hb (L2.passAt tk σ) I1 r q⟩
end
end TS

set_option maxRecDepth 100000
/-! Instances of classes without an __init__. -/
namespace TS
open PySem PySem.Spec PyProof.Rows L2
/-- what a class without an __init__ must have to be made -/
structure Mk0 (K : PySem.W.Frag) (C : Addr) : Prop where
  makes : PySem.W.makesIn K C = true
  init : PySem.W.findIn K (.ref C) "__init__" = some (some (.builtin "object.__init__"))
  kp : PySem.W.keepIn K (.ref C) = true
theorem mk0_of {K : PySem.W.Frag} {C : Addr} (h : mk0B K C = true) : Mk0 K C := by
  unfold mk0B at h
  simp only [Bool.and_eq_true, decide_eq_true_eq] at h
  exact ⟨h.1, h.2.1, h.2.2⟩
theorem make_at0 {X : Cx} {C : Addr} {pins : List (Addr × Obj)} {σ : L2.St} {H : Hp} {s : Shared} {Q : VK} (M : Mk0 X.K C) (I : Inv X pins σ H s)
    (h : ∀ x dx, H x = none → H dx = none → dx ≠ x → Q (.ref x) (upd (upd H dx (.own x)) x (.ins C dx []))) :
    wpAny (model X.prog X.w) X.A (call (.ref C) []) (EP X pins σ Q) X.xe s := by
  have q := h (s.heap.objs.size + 1) s.heap.objs.size (I.hok.fresh (Nat.le_succ _)) (I.hok.fresh (Nat.le_refl _)) (Nat.ne_of_lt (Nat.lt_succ_self _))
  have I2 := Inv.made (C := C) I
  refine wpAny_call (make_map0 I.kIn M.makes M.init (fun self => PySem.W.Looks.of_pure (PySem.W.oi_bind self)) ?_)
  have Y := PySem.W.makes_of (M := model X.prog X.w) I.kIn M.makes
  have e2 : ((s.heap.push PySem.W.emptyDict).push (PySem.W.instObj C s.heap.objs.size)).get? (s.heap.objs.size + 1) = some (PySem.W.instObj C s.heap.objs.size) := by
    have := Heap.get?_push_size (s.heap.push PySem.W.emptyDict) (o := PySem.W.instObj C s.heap.objs.size) rfl
    rwa [Heap.size_push] at this
  have t1 : PySem.W.Looks (model X.prog X.w) ((s.heap.push PySem.W.emptyDict).push (PySem.W.instObj C s.heap.objs.size)) (typeOf (.ref (s.heap.objs.size + 1))) (.ref C) := (PySem.W.Looks.ld e2).andThen .now
  have t2 : PySem.W.Looks (model X.prog X.w) ((s.heap.push PySem.W.emptyDict).push (PySem.W.instObj C s.heap.objs.size)) (isInstance (.ref (s.heap.objs.size + 1)) (.type "object")) true := t1.andThen (Y.top.keeps fun b o e => Heap.get?_push_of_some _ (Heap.get?_push_of_some _ e))
  refine codeAny_call_builtin PySem.W.oi_plain PySem.W.entry_oi (@PySem.W.check_slot (model X.prog X.w) _ _ _ "object.__init__" "object" "__init__" (.ref (s.heap.objs.size + 1)) [] [] _ PySem.W.oi_kind PySem.W.oi_split t2 (PySem.W.oi_args (.ref (s.heap.objs.size + 1))) ?_)
  rw [PySem.W.oi_run]
  exact wpAny_pure (And.intro rfl ⟨V.ref (s.heap.objs.size + 1), _, I2, rfl, q⟩)
section
variable {N : Nm} {X : Cx} {T : List (Addr × Str)} {Wx : WX} {pos : Pos}
theorem pe_nw0 {cl : Nat} {x : Str} {p : Pos} (c : TT.Cxt) (hc : cl < N.cs.length) (M : Mk0 X.K (N.ca X.K cl)) (hg : Gl X x) (hm : X.mg x = some (.ref (N.ca X.K cl))) (hd : (x == ("__debug__" : Str)) = false) :
    PE X (.Call (.Name x p) [] [] pos) (cE N X.K T Wx (TT.evE c (.new0 cl))) := by
  constructor
  intro pins s σ H Q I h
  obtain ⟨L, e, st, re, rs, o⟩ := h
  simp only [TT.evE] at o
  refine wpAny_Call_Name_kw (ld_glob I hg hm ?_ hd)
  refine PySem.W.callWith_K0 I.kIn M.kp (make_at0 M I fun x dx hx hdx ne => ?_)
  have hx' : upd H dx (.own x) x = none := by rw [upd_ne ne.symm]; exact hx
  refine o L _ ((Pst.new_ hdx).trans (Pst.new_ hx')) ((rs.new_ hdx).new_ hx') (.ref x) ?_
  exact RepD.obj hc (fresh_notin rs hx) upd_same rfl .nil
end
end TS

set_option maxRecDepth 100000
/-! What is walked. -/
namespace TS
open PySem PySem.Spec PyProof.Rows L2
/-! ### enumerate of a tuple -/
set_option maxHeartbeats 1000000 in
theorem enum_new {v : Value} {o : Obj} {G : Heap → Prop} (B : Begins v o G) :
    Meets (Builtin.«enumerate.__new__» ⟨[.type "enumerate", v], []⟩) (fun _ R s => G s.heap ∧ R (.ok (.ret (.ref (s.heap.push o).objs.size)))
      { s with heap := (s.heap.push o).push { cls := .type "enumerate", data := .fields #[.none, .bool false, .ref s.heap.objs.size, rawInt 0, .none, .none] } }) :=
  .of_wp fun prog w A R s h => by
    obtain ⟨hp, g, d, tk, os⟩ := s
    obtain ⟨h1, h2⟩ := h
    have heir := sub_enumerate
    have q1 : ∀ {A' : Around} {E Q : Value → Shared → Prop}, Q (.ref hp.objs.size) ⟨hp.push o, g, d, tk, os⟩ → wpAny (model prog w) A' (pyIter v) Q E ⟨hp, g, d, tk, os⟩ :=
      fun q => B.iter prog w _ _ ⟨hp, g, d, tk, os⟩ _ h1 q
    wp_walk using q1
    refine wpAny_stack_any fun st => wpAny_pure ?_
    split
    · rename_i c _ _ _ _ _
      cases (c == Value.type "enumerate") <;>
        (wp_walk using q1
         exact ⟨_, rfl, h2⟩)
    · wp_walk using q1
      exact ⟨_, rfl, h2⟩
section
variable {prog : Program} {w : World} {A : Around} {E : Value → Shared → Prop} {s : Shared}
theorem enum_call {v : Value} {o : Obj} {G : Heap → Prop} {Q : Value → Shared → Prop} (B : Begins v o G) (h1 : G s.heap)
    (h : ∀ h', IsEnum h' (s.heap.objs.size + 1) s.heap.objs.size 0 .none → h'.get? s.heap.objs.size = some o → (∀ b o, s.heap.get? b = some o → h'.get? b = some o) → Q (.ref (s.heap.objs.size + 1)) { s with heap := h' }) :
    wpAny (model prog w) A (call (.type "enumerate") [v]) Q E s := by
  refine callType_new F.called_enumerate (by decide) (F.typeCall_enumerate_1 _) (F.newCall_enumerate_1 _) (fun obj => F.args_object_init_2 obj _) F.entry_enumerate_new (enum_new B) ⟨h1, ?_⟩
  have sz : (s.heap.push o).objs.size = s.heap.objs.size + 1 := Heap.size_push ..
  show _ ∧ _
  rw [sz]
  have he : IsEnum ((s.heap.push o).push { cls := .type "enumerate", data := .fields #[.none, .bool false, .ref s.heap.objs.size, rawInt 0, .none, .none] }) (s.heap.objs.size + 1) s.heap.objs.size 0 .none := by
    have q := Heap.get?_push_size (s.heap.push o) (o := { cls := .type "enumerate", data := .fields #[.none, .bool false, .ref s.heap.objs.size, rawInt 0, .none, .none] }) rfl
    rw [sz] at q
    exact q
  exact ⟨⟨_, he, rfl⟩, h _ he (Heap.get?_push_of_some _ (Heap.get?_push_size _ B.free)) fun b u x => Heap.get?_push_of_some _ (Heap.get?_push_of_some _ x)⟩
end
/-- (0, x), (1, y), .. of the tuple at a -/
def IteT (K : PySem.W.Frag) (a : Addr) : It :=
  ⟨fun i H => ∃ (xs : List L2.V) (x : L2.V), SqT K H a xs ∧ xs[i]? = some x, fun i H v H' => ∃ t x, v = .ref t ∧ H t = none ∧ H' = upd H t (.tup [.int (i : Nat), x]) ∧ ∀ xs, SqT K H a xs → xs[i]? = some x, fun i H => ∃ xs : List L2.V, SqT K H a xs ∧ xs.length = i⟩
theorem isTuple_of {h : Heap} {a : Addr} {its : Array Value} (p : IsTup h a its) : h.IsTuple a its := by
  obtain ⟨o, e, c, n, d⟩ := p
  exact ⟨o, e, c, n, d⟩
theorem turn_eT {P : Program} {w : World} {K : PySem.W.Frag} {elts : List Expr} {kk : Nat} {tpos : Pos} (a e it : Addr) :
    Turn P w K (.Tuple elts kk tpos) (IteT K a) [e, it] e (fun i h => (∃ old, IsEnum h e it ((i : Nat) : Int) old) ∧ h.IsTupleIter it a i ∧ e ≠ it ∧ a ≠ it ∧ a ≠ e) where
  mem := by simp
  obj := fun i h st b hb => by
    obtain ⟨⟨old, he⟩, ⟨o, ho, hc, hd⟩, _⟩ := st
    have q : b = e ∨ b = it := by simpa using hb
    rcases q with rfl | rfl
    · exact ⟨_, he, fun v q => nomatch q⟩
    · exact ⟨o, ho, fun v q => by rw [hd] at q; cases q⟩
  keep := fun i h h' st k => by
    obtain ⟨⟨old, he⟩, hi, hne⟩ := st
    exact ⟨⟨old, k e (by simp) _ he⟩, hi.at fun o q => k it (by simp) o q, hne⟩
  item := by
    intro X hP hw hK hc i pins s σ H E I hf st hg
    subst hP hw hK
    obtain ⟨⟨old, he⟩, hit, hne, hai, hae⟩ := st
    obtain ⟨xs, x, hq, hx⟩ := hg
    obtain ⟨its, rv, p, hz⟩ := I.tuple hq
    obtain ⟨u, hu, ru⟩ := rv.get hx
    have lt : i < its.toArray.size := by simpa using (List.getElem?_eq_some_iff.mp hu).1
    have hel : e < s.heap.objs.size := Heap.lt_size he
    have hil : it < s.heap.objs.size := by
      obtain ⟨_, q, _⟩ := hit
      exact Heap.lt_size q
    have D := Draws.tuple (prog := X.prog) (w := X.w) (A := X.A.in1) (I.ok.hd hc) it a hai its.toArray
    refine wpAny_pyNext_enum_itemD D he ⟨hit, isTuple_of p⟩ lt hne (by simp [hne, Ne.symm hae]) fun y h' tk hy ho hit' hT hsz hk => ?_
    have ey : y = u := by
      have e1 : its.toArray[i]? = some u := by simpa using hu
      rw [e1] at hy
      exact (Option.some.inj hy).symm
    subst ey
    refine ⟨_, rfl, wpAny_letOwnedTupleGo_enum (s := { s with heap := h', toks := tk + 1 }) ho fun h'' he' sb => ?_⟩
    have hT2 : h''.get? s.heap.objs.size = some { cls := .type "tuple", data := .seq #[.int i tk, y] } := (sb.2 _ (Nat.ne_of_gt hel)).trans hT
    have new : ObjOk X.prog X.w (upd H s.heap.objs.size (.tup [.int (i : Nat), x])) h'' s.heap.objs.size (.tup [.int (i : Nat), x]) :=
      ⟨by show 2 ≤ sizeLine; decide, [.int i tk, y], .cons ⟨_, rfl⟩ (.cons ru .nil), ⟨_, hT2, rfl, _, rfl⟩⟩
    have I1 : Inv X pins σ (upd H s.heap.objs.size (.tup [.int (i : Nat), x])) { s with heap := h'', toks := tk + 1 } :=
      I.turnedNew (ch := [e, it]) (fun b ob hb q => (sb.2 b (fun z => hb (by simp [z]))).trans (hk b ob (fun z => hb (by simp [z])) (fun z => hb (by simp [z])) q)) hf (Nat.le_refl _) new
    refine ⟨.ref s.heap.objs.size, _, I1, rfl, ⟨_, x, rfl, I.hok.fresh (Nat.le_refl _), rfl, fun ys hy => by rw [I.tuple_inj hy hq]; exact hx⟩, ⟨⟨y, ?_⟩, hit'.1.at fun o q => (sb.2 it (Ne.symm hne)).trans q, hne, hai, hae⟩, fun b hb => ?_⟩
    · have e1 : ((i + 1 : Nat) : Int) = (i : Int) + 1 := by omega
      rw [e1]; exact he'
    · have hb' : b < s.heap.objs.size := by
        have q : b = e ∨ b = it := by simpa using hb
        rcases q with rfl | rfl
        · exact hel
        · exact hil
      rw [upd_ne (Nat.ne_of_lt hb')]
      exact (hf b hb).1
  done := by
    intro X hP hw hK hc i pins s σ H E I hf st hg
    subst hP hw hK
    obtain ⟨⟨old, he⟩, hit, hne, hai, hae⟩ := st
    obtain ⟨xs, hq, hx⟩ := hg
    obtain ⟨its, rv, p, hz⟩ := I.tuple hq
    obtain ⟨f0, f1, f2, f3, f4, f5⟩ := hf it (by simp)
    have hl := rv.length
    have D := Draws.tuple (prog := X.prog) (w := X.w) (A := X.A.in1) (I.ok.hd hc) it a hai its.toArray
    have sz : its.toArray.size = i := by simp; omega
    refine wpAny_pyNext_enum_endD D he (by rw [sz]; exact ⟨hit, isTuple_of p⟩) fun h' eb => ⟨rfl, I.turned (t' := s.toks) (fun b o hb q => eb b o hb q) f0 f1 f3 f4 f5⟩
  self := fun A i s Q E st h => by
    obtain ⟨⟨_, he⟩, _⟩ := st
    exact wpAny_pyIter_enum he h
def iEnT (K : PySem.W.Frag) (te : TE) : TI := fun σ H R => te σ H fun v H1 => ∃ (a : Addr) (xs : List L2.V), v = .ref a ∧ ((SqL K H1 a xs ∧ R (Ite K a) H1) ∨ (SqT K H1 a xs ∧ R (IteT K a) H1))
theorem pi_eT {X : Cx} {e : Expr} {te : TE} {p pos tpos : Pos} {elts : List Expr} {kk : Nat} (hg : Gl X "enumerate") (hm : X.mg "enumerate" = none) (he : PE X e te) (hs : noStar e = true) :
    PI X (.Tuple elts kk tpos) (.Call (.Name "enumerate" p) [e] [] pos) (iEnT X.K te) := by
  constructor
  intro pins s σ H R I h
  refine Call_ (ld_blt I hg hm boot_enumerate (PyProof.Rows.callWith_type1 (args_cons (thn (he.run pins s σ H _ I h) fun u s1 hq => args_nil ?_) (star1 hs)) (star1 hs) rfl))
  obtain ⟨v, H1, I1, r1, a, xs, ev, q⟩ := hq
  subst ev
  obtain rfl : u = Value.ref a := r1
  have fpo : ∀ b ∈ [s1.heap.objs.size + 1, s1.heap.objs.size], FpOk X pins H1 b := fun b hb => by
    have q : b = s1.heap.objs.size + 1 ∨ b = s1.heap.objs.size := by simpa using hb
    have le : s1.heap.objs.size ≤ b := by rcases q with z | z <;> rw [z] <;> omega
    exact I1.fpOk le (I1.hok.fresh le)
  rcases q with ⟨hq, q⟩ | ⟨hq, q⟩
  · obtain ⟨its, rv, p', hz⟩ := I1.list hq
    refine call_enumerate_list p'.isList fun h' he hit hsz hk => wpAny_pyIter_enum he ?_
    exact ⟨s1.heap.objs.size + 1, [s1.heap.objs.size + 1, s1.heap.objs.size], _, _, H1, rfl, I1.kept (t' := s1.toks) hk, turn_enum a (s1.heap.objs.size + 1) s1.heap.objs.size, ⟨⟨.none, he⟩, hit, Nat.succ_ne_self _⟩, fpo, q⟩
  · obtain ⟨its, rv, p', hz⟩ := I1.tuple hq
    have la : a < s1.heap.objs.size := by
      obtain ⟨o, e1, _⟩ := p'
      exact Heap.lt_size e1
    refine enum_call (begins_tuple a its.toArray) (isTuple_of p') fun h' he hit hk => wpAny_pyIter_enum he ?_
    exact ⟨s1.heap.objs.size + 1, [s1.heap.objs.size + 1, s1.heap.objs.size], _, _, H1, rfl, I1.kept (t' := s1.toks) hk, turn_eT a (s1.heap.objs.size + 1) s1.heap.objs.size,
      ⟨⟨.none, he⟩, ⟨_, hit, rfl, rfl⟩, Nat.succ_ne_self _, Nat.ne_of_lt la, Nat.ne_of_lt (Nat.lt_succ_of_lt la)⟩, fpo, q⟩
end TS

set_option maxRecDepth 100000
/-! What is walked, as the small language has it; comprehensions. -/
namespace TS
open PySem PySem.Spec PyProof.Rows L2
/-- the walk J yields the things of g, wherever one has come to from L0, H0 -/
def Walks (N : Nm) (K : PySem.W.Frag) (T : List (Addr × Str)) (J : It) (L0 : Loc) (H0 : Hp) (g : TT.Its) : Prop :=
  ∀ (L : Loc) (H : Hp) (s : Sto), Pst L0 L H0 H → RelS N K T L H s → TT.still g s = true →
    (∀ (i : Nat) (d : D), g.1[i]? = some d → J.go i H ∧ ∀ x H', J.yld i H x H' → Pst L L H H' ∧ RelS N K T L H' s ∧ RepD N K L H' x d) ∧ J.stop g.1.length H
section
variable {N : Nm} {K : PySem.W.Frag} {T : List (Addr × Str)} {L L' : Loc} {H H' : Hp} {s : Sto}
theorem Walks.later {J : It} {g : TT.Its} (p : Pst L L' H H') (w : Walks N K T J L H g) : Walks N K T J L' H' g := fun L2 H2 s2 q z c => w L2 H2 s2 (p.trans q) z c
/-- a list that stays as it is -/
theorem walk_l {a : Addr} {ds : List D} {o : Option Nat} (h : ∀ (L' : Loc) (H' : Hp) (s' : Sto), Pst L L' H H' → RelS N K T L' H' s' → TT.still (ds, o) s' = true → ∃ xs, SqL K H' a xs ∧ RepDs N K L' H' xs ds) (inj : ∀ {H' : Hp} {xs ys : List L2.V}, True) : Walks N K T (Itl K a) L H (ds, o) := by
  intro L1 H1 s1 p z c
  obtain ⟨xs, hs, r⟩ := h L1 H1 s1 p z c
  refine ⟨fun i d e => ?_, ⟨xs, hs, Nat.le_of_eq r.len⟩⟩
  obtain ⟨v, e1, rv⟩ := r.get e
  refine ⟨⟨xs, v, hs, e1⟩, fun x H' y => ?_⟩
  obtain ⟨rfl, y⟩ := y
  have e2 := y xs hs
  rw [e1] at e2
  cases e2
  exact ⟨Pst.refl _ _, z, rv⟩
theorem walk_t {a : Addr} {xs : List L2.V} {ds : List D} {o : Option Nat} (h : TupF L H a xs) (r : RepDs N K L H xs ds) : Walks N K T (Itt K a) L H (ds, o) := by
  intro L1 H1 s1 p z c
  have h1 := (h.keeps p.keeps).seq (K := K)
  have r1 := r.keeps p.keeps
  refine ⟨fun i d e => ?_, ⟨xs, h1, Nat.le_of_eq r1.len⟩⟩
  obtain ⟨v, e1, rv⟩ := r1.get e
  refine ⟨⟨xs, v, h1, e1⟩, fun x H' y => ?_⟩
  obtain ⟨rfl, y⟩ := y
  have e2 := y xs h1
  rw [e1] at e2
  cases e2
  exact ⟨Pst.refl _ _, z, rv⟩
/-- what a value is walked by -/
theorem walkOf_rep {v : L2.V} {w : W} {g : TT.Its} (z : RelS N K T L H s) (r : RepW N K L H v w) (h : TT.walkOf s w = some g) :
    ∃ a, v = .ref a ∧ (((∃ xs, SqL K H a xs) ∧ Walks N K T (Itl K a) L H g) ∨ ((∃ xs, SqT K H a xs) ∧ Walks N K T (Itt K a) L H g)) := by
  cases w with
  | d x =>
    cases x <;> simp [TT.walkOf] at h
    · subst h
      obtain ⟨a, xs, rfl, h, r⟩ := RepD.tup_inv r
      exact ⟨a, rfl, .inr ⟨⟨xs, h.seq⟩, walk_t h r⟩⟩
    · subst h
      cases r with
      | lst n e r =>
        refine ⟨_, rfl, .inl ⟨⟨_, SqL.of e⟩, walk_l (fun L1 H1 s1 p _ _ => ⟨_, SqL.of (p.fr _ _ e n fun ps z => nomatch z), r.keeps p.keeps⟩) trivial⟩⟩
    · subst h
      cases r with
      | rol e r => exact ⟨_, rfl, .inl ⟨⟨_, e.seq⟩, walk_l (fun L1 H1 s1 p _ _ => ⟨_, (e.keeps p.keeps).seq, r.keeps p.keeps⟩) trivial⟩⟩
  | loc l =>
    obtain ⟨a, e, rfl⟩ := r
    simp only [TT.walkOf] at h
    split at h
    · rename_i ds e1
      cases h
      obtain ⟨b, f, _, m⟩ := z.loc e1 (fun q => nomatch q)
      rw [e] at f; cases f
      cases m with
      | lst e2 r =>
        refine ⟨a, rfl, .inl ⟨⟨_, SqL.of e2⟩, walk_l (fun L1 H1 s1 p z1 c => ?_) trivial⟩⟩
        simp only [TT.still] at c
        split at c
        · rename_i es e3
          have e4 := of_decide_eq_true c
          subst e4
          obtain ⟨b, f, _, m⟩ := z1.loc e3 (fun q => nomatch q)
          have e5 : L1[l]? = some (some a) := by
            obtain ⟨Y, rfl⟩ := p.pre
            rw [List.getElem?_append_left (List.getElem?_eq_some_iff.mp e).1]
            exact e
          rw [e5] at f; cases f
          cases m with
          | lst e6 r6 => exact ⟨_, SqL.of e6, r6⟩
        · cases c
    · cases h
theorem walk_r (i j : Int) : Walks N K T (Itr i (j - i).toNat) L H (TT.rngD i j, none) := by
  intro L1 H1 s1 p z c
  have ln : (TT.rngD i j).length = (j - i).toNat := by simp [TT.rngD]
  refine ⟨fun k d e => ?_, by rw [ln]; exact Nat.le_refl _⟩
  have hk : k < (j - i).toNat := by rw [← ln]; exact (List.getElem?_eq_some_iff.mp e).1
  refine ⟨hk, fun x H' y => ?_⟩
  obtain ⟨rfl, rfl⟩ := y
  have ed : d = .int (i + (k : Int)) := by
    unfold TT.rngD at e
    rw [List.getElem?_map, List.getElem?_range hk] at e
    exact (Option.some.inj e).symm
  subst ed
  exact ⟨Pst.refl _ _, z, .int _⟩
theorem rev_at {α : Type} {xs : List α} {i : Nat} {d : α} (h : xs.reverse[i]? = some d) : i < xs.length ∧ xs[xs.length - 1 - i]? = some d := by
  have hi : i < xs.reverse.length := (List.getElem?_eq_some_iff.mp h).1
  rw [List.length_reverse] at hi
  rw [List.getElem?_reverse hi] at h
  exact ⟨hi, h⟩
theorem walk_vl {a : Addr} {xs : List L2.V} {ds : List D} (n : some a ∉ L) (h : H a = some (.lst xs)) (r : RepDs N K L H xs ds) : Walks N K T (Itv K a xs.length) L H (ds.reverse, none) := by
  intro L1 H1 s1 p z c
  have h1 : SqL K H1 a xs := SqL.of (p.fr _ _ h n fun ps z => nomatch z)
  have r1 := r.keeps p.keeps
  refine ⟨fun i d e => ?_, by simp [r.len, Itv]⟩
  obtain ⟨hi, e0⟩ := rev_at e
  obtain ⟨v, e1, rv⟩ := r1.get e0
  rw [← r.len] at e1 hi
  refine ⟨⟨hi, xs, v, h1, e1⟩, fun x H' y => ?_⟩
  obtain ⟨rfl, y⟩ := y
  have e2 := y xs h1
  rw [e1] at e2
  cases e2
  exact ⟨Pst.refl _ _, z, rv⟩
theorem walk_vt {a : Addr} {xs : List L2.V} {ds : List D} (h : TupF L H a xs) (r : RepDs N K L H xs ds) : Walks N K T (RT.ItvT K a xs.length) L H (ds.reverse, none) := by
  intro L1 H1 s1 p z c
  have h1 := (h.keeps p.keeps).seq (K := K)
  have r1 := r.keeps p.keeps
  refine ⟨fun i d e => ?_, by simp [r.len, RT.ItvT]⟩
  obtain ⟨hi, e0⟩ := rev_at e
  obtain ⟨v, e1, rv⟩ := r1.get e0
  rw [← r.len] at e1 hi
  refine ⟨⟨hi, xs, v, h1, e1⟩, fun x H' y => ?_⟩
  obtain ⟨rfl, y⟩ := y
  have e2 := y xs h1
  rw [e1] at e2
  cases e2
  exact ⟨Pst.refl _ _, z, rv⟩
theorem enum_len : ∀ (n : Nat) (ds : List D), (TT.enumD n ds).length = ds.length
  | _, [] => rfl
  | n, d :: ds => by simp [TT.enumD, enum_len (n + 1) ds]
theorem enum_at : ∀ (n : Nat) (ds : List D) (i : Nat) (d : D), (TT.enumD n ds)[i]? = some d → ∃ e, ds[i]? = some e ∧ d = .tup [.int ((n + i : Nat) : Int), e]
  | _, [], i, d, h => by simp [TT.enumD] at h
  | n, x :: ds, 0, d, h => by
    simp [TT.enumD] at h
    exact ⟨x, rfl, by simp [h]⟩
  | n, x :: ds, i + 1, d, h => by
    obtain ⟨e, h1, h2⟩ := enum_at (n + 1) ds i d (by simpa [TT.enumD] using h)
    refine ⟨e, by simpa using h1, ?_⟩
    rw [h2, show n + 1 + i = n + (i + 1) by omega]
theorem new_pair {t : Addr} {x : L2.V} {i : Nat} {e : D} (z : RelS N K T L H s) (ht : H t = none) (r : RepD N K L H x e) :
    Pst L L H (upd H t (.tup [.int (i : Nat), x])) ∧ RelS N K T L (upd H t (.tup [.int (i : Nat), x])) s ∧ RepD N K L (upd H t (.tup [.int (i : Nat), x])) (.ref t) (.tup [.int ((i : Nat) : Int), e]) :=
  ⟨Pst.new_ ht, z.new_ ht, .tup ⟨fresh_notin z ht, upd_same⟩ (.cons (.int _) (.cons (r.keeps (Pst.new_ ht).keeps) .nil))⟩
theorem walk_el {a : Addr} {xs : List L2.V} {ds : List D} (n : some a ∉ L) (h : H a = some (.lst xs)) (r : RepDs N K L H xs ds) : Walks N K T (Ite K a) L H (TT.enumD 0 ds, none) := by
  intro L1 H1 s1 p z c
  have h1 : SqL K H1 a xs := SqL.of (p.fr _ _ h n fun ps z => nomatch z)
  have r1 := r.keeps p.keeps
  refine ⟨fun i d e => ?_, ⟨xs, h1, by rw [enum_len, r.len]; exact Nat.le_refl _⟩⟩
  obtain ⟨e', e0, rfl⟩ := enum_at 0 ds i d e
  obtain ⟨v, e1, rv⟩ := r1.get e0
  refine ⟨⟨xs, v, h1, e1⟩, fun x H' y => ?_⟩
  obtain ⟨t, u, rfl, ht, rfl, y⟩ := y
  have e2 := y xs h1
  rw [e1] at e2
  cases e2
  rw [Nat.zero_add]
  exact new_pair z ht rv
theorem walk_et {a : Addr} {xs : List L2.V} {ds : List D} (h : TupF L H a xs) (r : RepDs N K L H xs ds) : Walks N K T (IteT K a) L H (TT.enumD 0 ds, none) := by
  intro L1 H1 s1 p z c
  have h1 := (h.keeps p.keeps).seq (K := K)
  have r1 := r.keeps p.keeps
  refine ⟨fun i d e => ?_, ⟨xs, h1, by rw [enum_len, r.len]⟩⟩
  obtain ⟨e', e0, rfl⟩ := enum_at 0 ds i d e
  obtain ⟨v, e1, rv⟩ := r1.get e0
  refine ⟨⟨xs, v, h1, e1⟩, fun x H' y => ?_⟩
  obtain ⟨t, u, rfl, ht, rfl, y⟩ := y
  have e2 := y xs h1
  rw [e1] at e2
  cases e2
  rw [Nat.zero_add]
  exact new_pair z ht rv
end
/-! ### the iterables -/
def cI (N : Nm) (K : PySem.W.Frag) (T : List (Addr × Str)) (Wx : WX) (f : TT.Env → Sto → TT.R TT.Its) : TI := fun σ H R =>
  ∃ (L : Loc) (e : TT.Env) (s : Sto), RelE N K L H σ e ∧ RelS N K T L H s ∧ Out N K T L H (fun g L' H' _ => ∀ J, Walks N K T J L' H' g → R J H') (fun c H' => Wx (.ref (N.ea K c)) none σ H') (f e s)
theorem PIw {X : Cx} {tg e : Expr} {t t' : TI} (h : PI X tg e t) (w : ∀ σ H R, t' σ H R → t σ H R) : PI X tg e t' := ⟨fun pins s σ H R I q => h.run pins s σ H R I (w σ H R q)⟩
/-- a list or a tuple -/
def iSq (K : PySem.W.Frag) (te : TE) : TI := fun σ H R => te σ H fun x H1 => ∃ a, x = .ref a ∧ (((∃ xs, SqL K H1 a xs) ∧ R (Itl K a) H1) ∨ ((∃ xs, SqT K H1 a xs) ∧ R (Itt K a) H1))
theorem pi_sq {X : Cx} {tg e : Expr} {te : TE} (h : PE X e te) : PI X tg e (iSq X.K te) := by
  constructor
  intro pins s σ H R I q
  refine thn (h.run pins s σ H _ I q) fun v s1 hq => ?_
  obtain ⟨x, H1, I1, r1, a, rfl, q1⟩ := hq
  cases r1
  have fpo : ∀ b ∈ [s1.heap.objs.size], FpOk X pins H1 b := fun b hb => by
    have e : b = s1.heap.objs.size := by simpa using hb
    subst e
    exact I1.fpOk (Nat.le_refl _) (I1.hok.fresh (Nat.le_refl _))
  rcases q1 with ⟨⟨xs, hs⟩, q⟩ | ⟨⟨xs, hs⟩, q⟩
  · obtain ⟨its, rv, p, hz⟩ := I1.list hs
    refine wpAny_pyIter_list p.isList ?_
    exact ⟨s1.heap.objs.size, [s1.heap.objs.size], _, _, H1, rfl, I1.kept (t' := s1.toks) (fun b o e => Heap.get?_push_of_some _ e), turn_list a _, ⟨_, Heap.get?_push_size _ rfl, rfl, rfl⟩, fpo, q⟩
  · obtain ⟨its, rv, p, hz⟩ := I1.tuple hs
    refine wpAny_pyIter_tuple (isTuple_of p) ?_
    exact ⟨s1.heap.objs.size, [s1.heap.objs.size], _, _, H1, rfl, I1.kept (t' := s1.toks) (fun b o e => Heap.get?_push_of_some _ e), turn_tuple a _, ⟨_, Heap.get?_push_size _ rfl, rfl, rfl⟩, fpo, q⟩
section
variable {N : Nm} {X : Cx} {T : List (Addr × Str)} {Wx : WX} {a b tg : Expr} {pos : Pos} {x y : TT.E}
theorem pi_s (c : TT.Cxt) (ha : PE X a (cE N X.K T Wx (TT.evE c x))) : PI X tg a (cI N X.K T Wx (TT.evI c (.seq x))) :=
  PIw (pi_sq ha) fun σ H R ⟨L, e, s, re, rs, o⟩ => by
    simp only [TT.evI] at o
    refine cE_then re rs o fun w L1 H1 s1 v p1 re1 rs1 rv o1 => ?_
    cases e1 : TT.walkOf s1 w with
    | none => rw [e1] at o1; exact False.elim o1
    | some g =>
      rw [e1] at o1
      obtain ⟨p, rfl, h⟩ := walkOf_rep rs1 rv e1
      rcases h with ⟨h, wk⟩ | ⟨h, wk⟩
      · exact ⟨p, rfl, .inl ⟨h, o1.here rs1 _ wk⟩⟩
      · exact ⟨p, rfl, .inr ⟨h, o1.here rs1 _ wk⟩⟩
theorem okR_ex {i : Int} (h : TT.okR i = true) : -(2 ^ 62) ≤ i ∧ i < 2 ^ 62 := by
  unfold TT.okR at h
  simp only [Bool.and_eq_true, decide_eq_true_eq] at h
  exact h
theorem asI_ok {w : W} {i : Int} (h : TT.asI w = some i) : w = .d (.int i) := by
  unfold TT.asI at h
  split at h
  · cases h; rfl
  · cases h
theorem pi_r1 {p : Pos} (hb : Gl X "range" ∧ X.mg "range" = none) (c : TT.Cxt) (ha : PE X a (cE N X.K T Wx (TT.evE c x))) (hs : noStar a = true) : PI X tg (.Call (.Name "range" p) [a] [] pos) (cI N X.K T Wx (TT.evI c (.rng1 x))) :=
  PIw (pi_range1 hb.1 hb.2 (pa_cons ha pa_nil (star1 hs)) (star1 hs)) fun σ H R ⟨L, e, s, re, rs, o⟩ => by
    simp only [TT.evI] at o
    refine cE_then re rs o fun w L1 H1 s1 v p1 re1 rs1 rv o1 => ?_
    split at o1
    · rename_i j e1
      split at o1
      · rename_i h
        obtain ⟨h1, h2⟩ := okR_ex h
        rw [asI_ok e1] at rv
        refine ⟨j, by rw [RepD.int_inv rv], h1, h2, ?_⟩
        have q := o1.here rs1 _ (walk_r 0 j)
        rw [Int.sub_zero] at q
        exact q
      · exact False.elim o1
    · exact False.elim o1
theorem pi_r2 {p : Pos} (hb : Gl X "range" ∧ X.mg "range" = none) (c : TT.Cxt) (ha : PE X a (cE N X.K T Wx (TT.evE c x))) (hb' : PE X b (cE N X.K T Wx (TT.evE c y))) (hs : noStar a = true) (hs' : noStar b = true) :
    PI X tg (.Call (.Name "range" p) [a, b] [] pos) (cI N X.K T Wx (TT.evI c (.rng2 x y))) := by
  have e1 : starEach [a, b] X.env = [(false, eval a X.env), (false, eval b X.env)] := by rw [star1 hs, star1 hs']; rfl
  have e2 : starEach [b] X.env = [(false, eval b X.env)] := star1 hs'
  refine PIw (pi_range2 hb.1 hb.2 (pa_cons ha (pa_cons hb' pa_nil (star1 hs')) (star1 hs)) e1 e2) fun σ H R ⟨L, e, s, re, rs, o⟩ => ?_
  simp only [TT.evI] at o
  refine cE_then re rs o fun w L1 H1 s1 v p1 re1 rs1 rv o1 => cE_then re1 rs1 o1 fun u L2 H2 s2 v2 p2 re2 rs2 ru o2 => ?_
  split at o2
  · rename_i i j e1 e2
    split at o2
    · rename_i h
      rw [Bool.and_eq_true] at h
      obtain ⟨h1, h2⟩ := okR_ex h.1
      obtain ⟨h3, h4⟩ := okR_ex h.2
      rw [asI_ok e1] at rv
      rw [asI_ok e2] at ru
      exact ⟨i, j, by rw [RepD.int_inv rv, RepD.int_inv ru], ⟨h1, h2, h3, h4⟩, o2.here rs2 _ (walk_r i j)⟩
    · exact False.elim o2
  · exact False.elim o2
theorem pi_en {p tpos : Pos} {elts : List Expr} {kk : Nat} (hb : Gl X "enumerate" ∧ X.mg "enumerate" = none) (c : TT.Cxt) (ha : PE X a (cE N X.K T Wx (TT.evE c x))) (hs : noStar a = true) :
    PI X (.Tuple elts kk tpos) (.Call (.Name "enumerate" p) [a] [] pos) (cI N X.K T Wx (TT.evI c (.enm x))) :=
  PIw (pi_eT hb.1 hb.2 ha hs) fun σ H R ⟨L, e, s, re, rs, o⟩ => by
    simp only [TT.evI] at o
    refine cE_then re rs o fun w L1 H1 s1 v p1 re1 rs1 rv o1 => ?_
    split at o1
    · cases rv with
      | lst n e1 r => exact ⟨_, _, rfl, .inl ⟨SqL.of e1, o1.here rs1 _ (walk_el n e1 r)⟩⟩
    · obtain ⟨b, xs, rfl, h, r⟩ := RepD.tup_inv rv
      exact ⟨_, _, rfl, .inr ⟨h.seq, o1.here rs1 _ (walk_et h r)⟩⟩
    · exact False.elim o1
theorem pi_rv {p : Pos} (hb : Gl X "reversed" ∧ X.mg "reversed" = none) (c : TT.Cxt) (ha : PE X a (cE N X.K T Wx (TT.evE c x))) (hs : noStar a = true) :
    PI X tg (.Call (.Name "reversed" p) [a] [] pos) (cI N X.K T Wx (TT.evI c (.revs x))) :=
  PIw (RT.pi_revA hb.1 hb.2 ha (star1 hs)) fun σ H R ⟨L, e, s, re, rs, o⟩ => by
    simp only [TT.evI] at o
    refine cE_then re rs o fun w L1 H1 s1 v p1 re1 rs1 rv o1 => ?_
    split at o1
    · cases rv with
      | lst n e1 r => exact ⟨_, _, rfl, .inl ⟨SqL.of e1, o1.here rs1 _ (walk_vl n e1 r)⟩⟩
    · obtain ⟨b, xs, rfl, h, r⟩ := RepD.tup_inv rv
      exact ⟨_, _, rfl, .inr ⟨h.seq, o1.here rs1 _ (walk_vt h r)⟩⟩
    · exact False.elim o1
end
end TS

set_option maxRecDepth 100000
/-! Targets; list comprehensions. -/
namespace TS
open PySem PySem.Spec PyProof.Rows L2
section
variable {N : Nm} {K : PySem.W.Frag} {T : List (Addr × Str)} {L L' : Loc} {H H' : Hp} {s : Sto} {σ : L2.St} {e : TT.Env}
theorem RelE.set {v : L2.V} {w : W} (i : Nat) (r : RelE N K L H σ e) (h : RepW N K L H v w) : RelE N K L H (σ.set i (some v)) (e.set i (some w)) := by
  refine ⟨by simp [r.len], fun j u q => ?_⟩
  rw [List.getElem?_set] at q
  split at q
  · rename_i ij
    subst ij
    split at q
    · rename_i hl
      cases q
      refine ⟨v, ?_, h⟩
      rw [List.getElem?_set_self (by rw [← r.len]; exact hl)]
    · cases q
  · rename_i ij
    obtain ⟨x, h1, h2⟩ := r.at_ j u q
    exact ⟨x, by rw [List.getElem?_set_ne ij]; exact h1, h2⟩
theorem killE_at : ∀ (ks : List Nat) (e : TT.Env) (j : Nat) (u : W), (TT.killE ks e)[j]? = some (some u) → e[j]? = some (some u) ∧ j ∉ ks
  | [], e, j, u, h => ⟨h, by simp⟩
  | k :: ks, e, j, u, h => by
    have h : (TT.killE ks (e.set k none))[j]? = some (some u) := h
    obtain ⟨h1, h2⟩ := killE_at ks _ j u h
    rw [List.getElem?_set] at h1
    split at h1
    · split at h1 <;> cases h1
    · rename_i ne
      exact ⟨h1, by simp only [List.mem_cons, not_or]; exact ⟨fun q => ne q.symm, h2⟩⟩
theorem killE_len : ∀ (ks : List Nat) (e : TT.Env), (TT.killE ks e).length = e.length
  | [], e => rfl
  | k :: ks, e => by
    show (TT.killE ks (e.set k none)).length = _
    rw [killE_len ks, List.length_set]
theorem RelE.kill (ks : List Nat) (r : RelE N K L H σ e) : RelE N K L H σ (TT.killE ks e) :=
  ⟨by rw [killE_len]; exact r.len, fun j u q => r.at_ j u (killE_at ks e j u q).1⟩
theorem wipe_out' {i : Nat} : ∀ {vs : List Nat}, i ∉ vs → (wipe σ vs)[i]? = σ[i]?
  | [], _ => rfl
  | v :: vs, h => by
    simp only [List.mem_cons, not_or] at h
    unfold wipe
    rw [List.getElem?_set_ne fun q => h.1 q.symm]
    exact wipe_out' h.2
theorem RelE.wipe (ks : List Nat) (r : RelE N K L H σ e) : RelE N K L H (wipe σ ks) (TT.killE ks e) :=
  ⟨by rw [killE_len, wipe_length]; exact r.len, fun j u q => by
    obtain ⟨h1, h2⟩ := killE_at ks e j u q
    obtain ⟨v, h3, h4⟩ := r.at_ j u h1
    exact ⟨v, by rw [wipe_out' h2]; exact h3, h4⟩⟩
theorem wipe_set {i : Nat} {x : Option L2.V} : ∀ {vs : List Nat}, i ∈ vs → wipe (σ.set i x) vs = wipe σ vs
  | [], h => by cases h
  | v :: vs, h => by
    unfold L2.wipe
    by_cases hv : i ∈ vs
    · rw [wipe_set hv]
    · have e : v = i := by
        rcases List.mem_cons.mp h with h | h
        · exact h.symm
        · exact absurd h hv
      subst e
      apply List.ext_getElem?
      intro j
      by_cases hj : v = j
      · subst hj
        by_cases hl : v < σ.length
        · rw [List.getElem?_set_self (by rw [wipe_length, List.length_set]; exact hl), List.getElem?_set_self (by rw [wipe_length]; exact hl)]
        · rw [List.getElem?_eq_none (by rw [List.length_set, wipe_length, List.length_set]; omega), List.getElem?_eq_none (by rw [List.length_set, wipe_length]; omega)]
      · rw [List.getElem?_set_ne hj, List.getElem?_set_ne hj]
        have aux : ∀ (ws : List Nat) (j : Nat), v ≠ j → (L2.wipe (σ.set v x) ws)[j]? = (L2.wipe σ ws)[j]? := by
          intro ws
          induction ws with
          | nil => intro j hj; exact List.getElem?_set_ne hj
          | cons w ws ih =>
            intro j hj
            unfold L2.wipe
            rw [List.getElem?_set, List.getElem?_set, ih j hj]
            simp [wipe_length]
        exact aux vs j hj
theorem wipe_wipe : ∀ (us vs : List Nat), (∀ i ∈ us, i ∈ vs) → wipe (wipe σ us) vs = wipe σ vs
  | [], vs, _ => rfl
  | u :: us, vs, h => by
    show wipe ((wipe σ us).set u none) vs = _
    rw [wipe_set (h u (by simp)), wipe_wipe us vs fun i hi => h i (by simp [hi])]
end
/-! ### targets -/
def setV : List Nat → List L2.V → L2.St → L2.St
  | i :: is, v :: vs, σ => setV is vs (σ.set i (some v))
  | _, _, σ => σ
def tgs : TT.Tg → List Nat
  | .nm i => [i]
  | .tp is => is
def gT (K : PySem.W.Frag) : TT.Tg → TG
  | .nm i => gName i
  | .tp is => fun v σ H Q => ∃ a xs, v = .ref a ∧ SqT K H a xs ∧ xs.length = is.length ∧ Q (setV is xs σ) H
/-- the names of a target, as they stand -/
structure TgNm (X : Cx) (x : Str) (i : Nat) : Prop where
  at_ : X.N[i]? = some x
  loc : L2.Loc X.env.scope x
  own : X.fn x = true ∨ X.env.scope.names.lookup x = some .local
inductive TgNms (X : Cx) : List Expr → List Nat → Prop
  | nil : TgNms X [] []
  | cons {x : Str} {p : Pos} {i : Nat} {es : List Expr} {is : List Nat} (h : TgNm X x i) (t : TgNms X es is) : TgNms X (.Name x p :: es) (i :: is)
def gsT : List Nat → TGs
  | [] => gNil
  | i :: is => gCons (gName i) (gsT is)
theorem TgNms.run {X : Cx} (hN : X.N.Nodup) : ∀ {es : List Expr} {is : List Nat}, TgNms X es is → PGs X es (gsT is)
  | _, _, .nil => pgs_nil
  | _, _, .cons h t => pgs_cons (pg_name hN h.at_ h.loc h.own) (TgNms.run hN t) rfl
theorem TgNms.each {X : Cx} {env : Env} : ∀ {es : List Expr} {is : List Nat}, TgNms X es is → (assignEach es env).length = is.length ∧ (assignEach es env).findIdx? (·.1) = none
  | _, _, .nil => ⟨rfl, rfl⟩
  | _, _, .cons (p := p) (x := x) h t => by
    obtain ⟨a, b⟩ := TgNms.each (env := env) t
    refine ⟨?_, ?_⟩
    · show (_ :: assignEach _ env).length = _
      simp [a]
    · show (((false, assign (.Name x p) env) :: assignEach _ env).findIdx? (·.1)) = none
      rw [List.findIdx?_cons]
      simp [b]
theorem gsT_of {Q : L2.St → Hp → Prop} {H : Hp} : ∀ {is : List Nat} {xs : List L2.V} {σ : L2.St}, xs.length = is.length → Q (setV is xs σ) H → gsT is xs σ H Q
  | [], [], σ, _, q => ⟨rfl, q⟩
  | [], _ :: _, _, h, _ => by simp at h
  | _ :: _, [], _, h, _ => by simp at h
  | i :: is, x :: xs, σ, h, q => ⟨x, xs, rfl, gsT_of (by simpa using h) q⟩
theorem pg_nm {X : Cx} {x : Str} {p : Pos} {i : Nat} (hN : X.N.Nodup) (h : TgNm X x i) : PG X (.Name x p) (gT X.K (.nm i)) := pg_name hN h.at_ h.loc h.own
theorem pg_tp {X : Cx} {es : List Expr} {is : List Nat} {k : Nat} {p : Pos} (hN : X.N.Nodup) (hc : X.calm = true) (h : TgNms X es is) : PG X (.Tuple es k p) (gT X.K (.tp is)) := by
  have e := h.each (env := X.env)
  have g := pg_tup (pos := p) (k := k) hc (h.run hN) e.1 e.2
  constructor
  intro pins s σ H v u Q I r q
  obtain ⟨a, xs, e1, e2, e3, q⟩ := q
  exact g.run pins s σ H v u Q I r ⟨a, xs, e1, e2, e3, gsT_of e3 q⟩
section
variable {N : Nm} {K : PySem.W.Frag} {T : List (Addr × Str)} {L L' : Loc} {H H' : Hp} {s : Sto} {σ : L2.St} {e e' : TT.Env}
theorem RelE.sets : ∀ {is : List Nat} {xs : List L2.V} {ds : List D} {σ : L2.St} {e : TT.Env}, RelE N K L H σ e → RepDs N K L H xs ds → RelE N K L H (setV is xs σ) (TT.setAll is ds e)
  | [], _, _, _, _, r, _ => by
    cases ‹RepDs N K L H _ _› <;> exact r
  | _ :: _, _, _, _, _, r, .nil => r
  | i :: is, _, _, _, _, r, .cons a t => RelE.sets (is := is) (r.set i a) t
theorem wipe_sets {vs : List Nat} : ∀ {is : List Nat} {xs : List L2.V} {σ : L2.St}, (∀ i ∈ is, i ∈ vs) → wipe (setV is xs σ) vs = wipe σ vs
  | [], [], _, _ => rfl
  | [], _ :: _, _, _ => rfl
  | _ :: _, [], _, _ => rfl
  | i :: is, x :: xs, σ, h => by
    show wipe (setV is xs (σ.set i (some x))) vs = _
    rw [wipe_sets (is := is) fun j hj => h j (by simp [hj]), wipe_set (h i (by simp))]
theorem tg_then {tg : TT.Tg} {v : L2.V} {w : W} {Q : L2.St → Hp → Prop} (re : RelE N K L H σ e) (rv : RepW N K L H v w) (h : TT.tgSem tg w e = some e')
    (q : ∀ σ', RelE N K L H σ' e' → (∀ vs : List Nat, (∀ i ∈ tgs tg, i ∈ vs) → wipe σ' vs = wipe σ vs) → Q σ' H) : gT K tg v σ H Q := by
  cases tg with
  | nm i =>
    simp only [TT.tgSem, Option.some.injEq] at h
    subst h
    exact q _ (re.set i rv) fun vs hv => wipe_set (hv i (by simp [tgs]))
  | tp is =>
    simp only [TT.tgSem] at h
    split at h
    · rename_i ds e1
      split at h
      · rename_i hl
        cases h
        unfold TT.tupOf at e1
        split at e1
        · cases e1
          obtain ⟨a, xs, rfl, h1, r⟩ := RepD.tup_inv rv
          exact ⟨a, xs, rfl, h1.seq, by rw [r.len, hl], q _ (re.sets r) fun vs hv => wipe_sets hv⟩
        · cases e1
      · cases h
    · cases h
/-! ### comprehensions -/
theorem Out.bind0 {α β : Type} {r : TT.R α} {f : α → Sto → TT.R β} {okb : β → Loc → Hp → Sto → Prop} {er : Nat → Hp → Prop} (h : Out N K T L H okb er (r.bind f)) : Out N K T L H (fun a _ _ s => Out N K T L H okb er (f a s)) er r := by
  cases r with
  | ok a s => exact fun _ _ _ _ => h
  | err c s => exact h
  | no => exact h
theorem Out.calm {α : Type} {r : TT.R α} {ok : α → Loc → Hp → Sto → Prop} {er er' : Nat → Hp → Prop} (h : Out N K T L H ok er r.calm) : Out N K T L H ok er' r := by
  cases r with
  | ok a s => exact h
  | err c s => exact False.elim h
  | no => exact h
theorem calm_bind {α β : Type} {r : TT.R α} {f : α → Sto → TT.R β} : (r.bind f).calm = r.calm.bind fun a s => (f a s).calm := by cases r <;> rfl
/-- what a thing of the store is, frozen -/
def frzM : M → Option D
  | .lst ds => some (.lst ds)
  | .dct t ks vs => some (.dct t ks vs)
  | .obj c ks vs => some (.obj c ks vs)
  | .dead => none
theorem RepM.frz {a : Addr} {m : M} {d : D} (n : some a ∉ L) (r : RepM N K L H a m) (h : frzM m = some d) : RepD N K L H (.ref a) d := by
  cases r with
  | lst e r => cases h; exact .lst n e r
  | dK e r => cases h; exact .dK n (.inl e) r
  | dT e r => cases h; exact .dT n (.inl e) r
  | d3 e => cases h; exact .d3 n (.inl e)
  | dN e k rk r => cases h; exact .dN n e k rk r
  | obj hc e f r => cases h; exact .obj hc n e f r
/-- from a store to one with fewer things -/
theorem RelS.sub (z : RelS N K T L H s) {s' : Sto} (len : L'.length = s'.length) (at_ : ∀ (l : Nat) (a : Addr), L'[l]? = some (some a) → L[l]? = some (some a))
    (h : ∀ (l : Nat) (m : M), s'[l]? = some m → m ≠ .dead → s[l]? = some m ∧ ∀ a, L[l]? = some (some a) → L'[l]? = some (some a)) : RelS N K T L' H s' := by
  have mem : ∀ a, some a ∈ L' → some a ∈ L := fun a q => by
    obtain ⟨l, e⟩ := List.mem_iff_getElem?.mp q
    exact List.mem_of_getElem? (at_ l a e)
  have k : Keeps L L' H H := ⟨fun a _ n _ _ q => n (mem a q), fun a u h _ _ => h⟩
  refine ⟨len, fun l j a h1 h2 => z.uniq l j a (at_ l a h1) (at_ j a h2), fun a q => z.there a (mem a q), fun l m q d => ?_, z.tabs⟩
  obtain ⟨h1, h2⟩ := h l m q d
  obtain ⟨a, e, r⟩ := z.at_ l m h1 d
  exact ⟨a, h2 a e, r.keeps k rfl⟩
theorem RelS.drop1 (z : RelS N K T L H s) : RelS N K T L.dropLast H s.dropLast := by
  refine z.sub (by simp [z.len]) (fun l a h => ?_) fun l m h d => ?_
  · rw [List.getElem?_dropLast] at h
    split at h
    · exact h
    · cases h
  · rw [List.getElem?_dropLast] at h
    split at h
    · rename_i hl
      refine ⟨h, fun a e => ?_⟩
      rw [List.getElem?_dropLast, if_pos (by rw [z.len]; exact hl)]
      exact e
    · cases h
theorem RelS.kill1 (z : RelS N K T L H s) (l : Nat) : RelS N K T (L.set l none) H (s.set l .dead) := by
  refine z.sub (by simp [z.len]) (fun j a h => ?_) fun j m h d => ?_
  · rw [List.getElem?_set] at h
    split at h
    · split at h <;> cases h
    · exact h
  · rw [List.getElem?_set] at h
    split at h
    · split at h
      · cases h; exact absurd rfl d
      · cases h
    · rename_i ne
      exact ⟨h, fun a e => by rw [List.getElem?_set_ne ne]; exact e⟩
theorem Pst.less {L0 : Loc} {H0 : Hp} (p : Pst L0 L H0 H) (pre : ∃ X, L' = L0 ++ X) (h : ∀ a, some a ∈ L' → some a ∈ L) : Pst L0 L' H0 H := ⟨pre, fun a q => p.new a (h a q), p.fr, p.thr⟩
theorem nin_drop {a : Addr} (z : RelS N K T L H s) {l : Nat} (e : L[l]? = some (some a)) (hl : l + 1 = L.length) : some a ∉ L.dropLast := fun q => by
  obtain ⟨j, f⟩ := List.mem_iff_getElem?.mp q
  rw [List.getElem?_dropLast] at f
  split at f
  · have := z.uniq l j a e f
    omega
  · cases f
theorem nin_kill {a : Addr} (z : RelS N K T L H s) {l : Nat} (e : L[l]? = some (some a)) : some a ∉ L.set l none := fun q => by
  obtain ⟨j, f⟩ := List.mem_iff_getElem?.mp q
  rw [List.getElem?_set] at f
  split at f
  · split at f <;> cases f
  · rename_i ne
    exact ne (z.uniq l j a e f)
theorem mem_drop {a : Addr} (h : some a ∈ L.dropLast) : some a ∈ L := List.dropLast_subset L h
theorem mem_kill {a : Addr} {l : Nat} (h : some a ∈ L.set l none) : some a ∈ L := by
  rcases List.mem_or_eq_of_mem_set h with h | h
  · exact h
  · cases h
theorem at_later {l : Nat} {a : Addr} (p : Pst L L' H H') (h : L[l]? = some (some a)) : L'[l]? = some (some a) := by
  obtain ⟨Y, rfl⟩ := p.pre
  rw [List.getElem?_append_left (List.getElem?_eq_some_iff.mp h).1]
  exact h
/-- a place between stays -/
theorem pre_at {L0 : Loc} {a : Addr} (e : ∃ X, L' = L0 ++ [some a] ++ X) : L'[L0.length]? = some (some a) := by
  obtain ⟨X, rfl⟩ := e
  simp
theorem pre_of {L0 : Loc} {a : Addr} {p : ∃ X, L' = L0 ++ X} (h : L'[L0.length]? = some (some a)) : ∃ X, L' = L0 ++ [some a] ++ X := by
  obtain ⟨X, rfl⟩ := p
  cases X with
  | nil => simp at h
  | cons x X => 
    simp at h
    subst h
    exact ⟨X, by simp⟩
end
/-- a clause's tests -/
inductive Tests (N : Nm) (X : Cx) (T : List (Addr × Str)) (c : TT.Cxt) : List Expr → TT.Es → Prop
  | nil : Tests N X T c [] .nil
  | one {b : Expr} {x : TT.E} (h : PT X b (cT N X.K T Wx0 (asT (TT.evE c x)))) : Tests N X T c [b] (.cons x .nil)
theorem Tests.run {N : Nm} {X : Cx} {T : List (Addr × Str)} {c : TT.Cxt} {bs : List Expr} {xs : TT.Es} (h : Tests N X T c bs xs) : PTs X bs (cT N X.K T Wx0 (TT.evC c xs)) := by
  cases h with
  | nil => exact ⟨fun pins s σ H Q I ⟨L, e, st, re, rs, o⟩ => pts_nil.run pins s σ H Q I (o.here rs)⟩
  | one h => exact ⟨fun pins s σ H Q I q => (pts_one h).run pins s σ H Q I q⟩
section
variable {N : Nm} {X : Cx} {T : List (Addr × Str)} {Wx : WX} {tg iter elt : Expr} {ifs : List Expr} {scope : Scope} {own : List (Str × Nat)} {pos : Pos}
/-- what is known of the parts of a comprehension, in its block -/
structure LcOk (N : Nm) (X : Cx) (T : List (Addr × Str)) (c : TT.Cxt) (tg : Expr) (ifs : List Expr) (elt : Expr) (t : TT.Tg) (es : TT.Es) (x : TT.E) : Prop where
  g : PG X tg (gT X.K t)
  t : PTs X ifs (cT N X.K T Wx0 (TT.evC c es))
  e : PE X elt (cE N X.K T Wx0 (TT.evE c x))
theorem lc_then {K : PySem.W.Frag} (c : TT.Cxt) (fz : Bool) (vs : List Nat) (t : TT.Tg) (it : TT.It) (es : TT.Es) (x : TT.E) (ht : ∀ i ∈ tgs t, i ∈ vs) (σ : L2.St) (H : Hp) (Q : VK)
    (h : cE N K T Wx (TT.evE c (.lc fz vs t it es x)) σ H Q) : tLc (cI N K T Wx (TT.evI c it)) (gT K t) (cT N K T Wx0 (TT.evC c es)) (cE N K T Wx0 (TT.evE c x)) vs σ H Q := by
  obtain ⟨L, e, s, re, rs, o⟩ := h
  simp only [TT.evE] at o
  refine ⟨L, e, s, re, rs, (Out.bind o).mono (fun g L1 H1 s1 p1 rs1 o1 J wk D hD => ?_) fun _ _ x => x⟩
  have re1 := re.pst p1
  let n := g.1.length
  have ln1 : s1.length = L1.length := rs1.len.symm
  refine ⟨fun i m H => ∃ (L2 : Loc) (s2 : Sto), i + m = n ∧ Pst L1 L2 H1 H ∧ L2[L1.length]? = some (some D) ∧ RelS N K T L2 H s2 ∧
    Out N K T L1 H1 (okW N K Q) (fun c H' => Wx (.ref (N.ea K c)) none σ H') ((TT.lcL (TT.lcF t (fun e s => TT.evC c es e s) (fun e s => TT.evE c x e s) (TT.killE vs e)) g s1.length (g.1.drop i) s2).bind fun _ s' => TT.finC fz s1.length s'), ⟨n, ?_⟩, ?_⟩
  · refine ⟨L1 ++ [some D], s1 ++ [.lst []], by simp, Pst.grow hD, by simp, rs1.grow hD (show isMut (.lst []) from trivial) (.lst upd_same .nil), by simpa using o1⟩
  rintro i m H2 ⟨L2, s2, him, p2, hD2, rs2, o2⟩
  have nL1 : some D ∉ L1 := fresh_notin rs1 hD
  cases hx : g.1.drop i with
  | nil =>
    left
    rw [hx] at o2
    simp only [TT.lcL] at o2
    split at o2
    · rename_i st
      have hi : i = g.1.length := by
        have := List.drop_eq_nil_iff.mp hx
        have : n = g.1.length := rfl
        omega
      refine ⟨by rw [hi]; exact (wk L2 H2 s2 p2 rs2 st).2, ?_⟩
      simp only [TT.R.bind_ok, TT.finC] at o2
      cases fz with
      | false =>
        exact (o2 L2 H2 p2 rs2) _ ⟨D, by rw [ln1]; exact hD2, rfl⟩
      | true =>
        simp only [if_true] at o2
        split at o2
        · rename_i hl
          split at o2
          · rename_i ds e3
            obtain ⟨b, eb, mb, rm⟩ := rs2.loc e3 (fun q => nomatch q)
            rw [ln1, hD2] at eb
            cases eb
            have hl2 : L1.length + 1 = L2.length := by rw [rs2.len, hl, ln1]
            have nin := nin_drop rs2 hD2 hl2
            have kp : Keeps L2 L2.dropLast H2 H2 := ⟨fun a _ na _ _ z => na (mem_drop z), fun a u h _ _ => h⟩
            have p3 : Pst L1 L2.dropLast H1 H2 := by
              refine p2.less ?_ fun a q => mem_drop q
              obtain ⟨Y, hY⟩ := p2.pre
              have : Y.length = 1 := by
                have := congrArg List.length hY
                simp at this
                omega
              obtain ⟨y, rfl⟩ := List.length_eq_one_iff.mp this
              exact ⟨[], by rw [hY]; simp⟩
            exact o2 L2.dropLast H2 p3 rs2.drop1 _ ((rm.keeps kp rfl).frz nin rfl)
          · exact False.elim o2
        · exact False.elim o2
    · exact False.elim o2
  | cons y ys =>
    right
    rw [hx] at o2
    simp only [TT.lcL] at o2
    split at o2
    · rename_i st
      have hy : g.1[i]? = some y := by
        have := congrArg (·[0]?) hx
        simpa using this
      have hys : g.1.drop (i + 1) = ys := by
        have := congrArg (List.drop 1) hx
        simpa [List.drop_drop, Nat.add_comm] using this
      have hi : i < n := (List.getElem?_eq_some_iff.mp hy).1
      obtain ⟨go, yl⟩ := (wk L2 H2 s2 p2 rs2 st).1 i y hy
      refine ⟨go, _, fun H' hN => ⟨m - 1, by omega, hN⟩, fun v H3 yv => ?_⟩
      obtain ⟨p3, rs3, rv⟩ := yl v H3 yv
      have p13 := p2.trans p3
      rw [TT.R.bind_assoc] at o2
      have o3 := (Out.bind0 o2).step p13
      unfold TT.lcF at o3
      have re3 := ((re1.pst p13).wipe vs)
      cases ht' : TT.tgSem t (.d y) (TT.killE vs e) with
      | none => simp only [ht'] at o3; exact False.elim o3
      | some e' =>
        simp only [ht'] at o3
        refine tg_then (w := .d y) re3 rv ht' fun σ3 re3' hw => ⟨?_, ?_⟩
        · have := hw vs ht
          rw [this, wipe_wipe vs vs fun i h => h]
        rw [calm_bind] at o3
        refine ⟨L2, e', s2, re3', rs3, (Out.bind o3).calm.mono (fun b L4 H4 s4 p4 rs4 o4 => ?_) fun _ _ x => x⟩
        have p14 := p13.trans p4
        cases b with
        | false =>
          simp only [Bool.false_eq_true, if_false] at o4 ⊢
          have o5 := o4.here rs4
          exact ⟨L4, s4, by omega, p14, at_later p4 (by rw [at_later p3 hD2]), rs4, by rw [hys]; exact o5⟩
        | true =>
          simp only [if_true] at o4 ⊢
          rw [calm_bind] at o4
          refine ⟨L4, e', s4, re3'.pst p4, rs4, (Out.bind o4).calm.mono (fun w L5 H5 s5 p5 rs5 o5 yv ryv => ?_) fun _ _ x => x⟩
          cases hw' : TT.asD w with
          | none => rw [hw'] at o5; exact False.elim o5
          | some z =>
            rw [hw'] at o5
            have o6 := o5.here rs5
            have ew : w = .d z := by
              unfold TT.asD at hw'
              split at hw'
              · cases hw'; rfl
              · cases hw'
            subst ew
            have hD5 := at_later p5 (at_later p4 (at_later p3 hD2))
            simp only [] at o6
            split at o6
            · rename_i acc e6
              split at o6
              · rename_i sm
                obtain ⟨b, eb, mb, rm⟩ := rs5.loc e6 (fun q => nomatch q)
                rw [ln1, hD5] at eb
                cases eb
                cases rm with
                | lst hh rr =>
                  refine ⟨_, hh, by rw [rr.len]; have := of_decide_eq_true sm; exact Nat.lt_of_le_of_lt this (by decide), L5, _, by omega, (p14.trans p5).trans (Pst.write mb), hD5, rs5.write (l := s1.length) (m := .lst (acc ++ [z])) (by rw [ln1]; exact hD5) (show isMut (.lst _) from trivial) ?_, ?_⟩
                  · exact .lst upd_same ((rr.app (.cons ryv .nil)).keeps (Pst.write mb).keeps)
                  · rw [hys]; exact o6
              · exact False.elim o6
            · exact False.elim o6
    · exact False.elim o2
/-- the list comprehension -/
theorem pe_lcm {c : TT.Cxt} {fz : Bool} {t : TT.Tg} {it : TT.It} {es : TT.Es} {x : TT.E} (hc : X.calm = true) (hN : X.N.Nodup) (hi : PI X tg iter (cI N X.K T Wx (TT.evI c it))) (ok : BlkOk X.N X.env.scope scope own) (ht : ∀ i ∈ tgs t, i ∈ own.map (·.2)) (hs : noSet iter = true)
    (hb : ∀ (s : Shared) (H : Hp) (C : Addr) (cl : List (Str × Addr)) (fp : List Addr), LcOk N (X.blk s H scope (compEnvC scope cl C X.env) fp) T c tg ifs elt t es x) :
    PE X (.ListComp elt [⟨tg, iter, ifs, 0⟩] scope pos) (cE N X.K T Wx (TT.evE c (.lc fz (own.map (·.2)) t it es x))) :=
  PEw (pe_lc hc hN hi ok (fun s H C cl fp => (hb s H C cl fp).g) (fun s H C cl fp => (hb s H C cl fp).t) (fun s H C cl fp => (hb s H C cl fp).e) (folded_no hs)) (lc_then c fz (own.map (·.2)) t it es x ht)
end
end TS

set_option maxRecDepth 100000
/-! Statements. -/
namespace TS
open PySem PySem.Spec PyProof.Rows L2
abbrev FE := TT.Fl × TT.Env
def flow (N : Nm) (K : PySem.W.Frag) (n : Nat) (D : Ends) : FE → Loc → Hp → Sto → Prop := fun p L H _ => match p.1 with
  | .nx => ∀ σ : L2.St, RelE N K L H σ p.2 → D.nx σ H
  | .brk => ∀ σ : L2.St, RelE N K L H σ p.2 → D.bk σ H
  | .cnt => ∀ σ : L2.St, RelE N K L H σ p.2 → D.ct σ H
  | .ret w => ∀ v, RepW N K L H v w → D.rt v H
abbrev erS (N : Nm) (K : PySem.W.Frag) (Wx : WX) : Nat → Hp → Prop := fun c H => ∀ σ : L2.St, Wx (.ref (N.ea K c)) none σ H
def cS (N : Nm) (K : PySem.W.Frag) (T : List (Addr × Str)) (Wx : WX) (F : Nat → TT.Env → Sto → TT.R FE) : TS := fun D σ H =>
  ∃ (L0 : Loc) (H0 : Hp) (L : Loc) (e : TT.Env) (s : Sto), Pst L0 L H0 H ∧ RelE N K L H σ e ∧ RelS N K T L H s ∧ Out N K T L0 H0 (flow N K 0 D) (erS N K Wx) (F L0.length e s)
theorem PSw {X : Cx} {st : Stmt} {t t' : TS} (h : PS X st t) (w : ∀ D σ H, t' D σ H → t D σ H) : PS X st t' := ⟨fun pins s σ H D I q => h.run pins s σ H D I (w D σ H q)⟩
theorem PSsw {X : Cx} {st : List Stmt} {t t' : TS} (h : PSs X st t) (w : ∀ D σ H, t' D σ H → t D σ H) : PSs X st t' := ⟨fun pins s σ H D I q => h.run pins s σ H D I (w D σ H q)⟩
section
variable {N : Nm} {X : Cx} {T : List (Addr × Str)} {Wx : WX} {f : TT.Env → Sto → TT.R W} {a b tg : Expr} {pos : Pos} {K : PySem.W.Frag} {L0 L : Loc} {H0 H : Hp} {σ : L2.St} {e : TT.Env} {s : Sto} {D : Ends}
/-- an expression, then more -/
theorem sE_then {k : W → Sto → TT.R FE} {Q : VK} (p0 : Pst L0 L H0 H) (re : RelE N K L H σ e) (rs : RelS N K T L H s) (o : Out N K T L0 H0 (flow N K 0 D) (erS N K Wx) ((f e s).bind k))
    (q : ∀ w L' H' s' v, Pst L0 L' H0 H' → Pst L L' H H' → RelE N K L' H' σ e → RelS N K T L' H' s' → RepW N K L' H' v w → Out N K T L0 H0 (flow N K 0 D) (erS N K Wx) (k w s') → Q v H') : cE N K T Wx f σ H Q :=
  ⟨L, e, s, re, rs, ((Out.bind0 o).step p0).mono (fun w L' H' s' p z o' v rv => q w L' H' s' v (p0.trans p) p (re.pst p) z rv o') fun _ _ h => h σ⟩
theorem sA_then {fa : TT.Env → Sto → TT.R (List W)} {k : List W → Sto → TT.R FE} {Q : List L2.V → Hp → Prop} (p0 : Pst L0 L H0 H) (re : RelE N K L H σ e) (rs : RelS N K T L H s) (o : Out N K T L0 H0 (flow N K 0 D) (erS N K Wx) ((fa e s).bind k))
    (q : ∀ ws L' H' s' vs, Pst L0 L' H0 H' → Pst L L' H H' → RelE N K L' H' σ e → RelS N K T L' H' s' → RepWs N K L' H' vs ws → Out N K T L0 H0 (flow N K 0 D) (erS N K Wx) (k ws s') → Q vs H') : cA N K T Wx fa σ H Q :=
  ⟨L, e, s, re, rs, ((Out.bind0 o).step p0).mono (fun w L' H' s' p z o' v rv => q w L' H' s' v (p0.trans p) p (re.pst p) z rv o') fun _ _ h => h σ⟩
theorem sT_then {k : Bool → Sto → TT.R FE} {Q : Bool → Hp → Prop} (p0 : Pst L0 L H0 H) (re : RelE N K L H σ e) (rs : RelS N K T L H s) (o : Out N K T L0 H0 (flow N K 0 D) (erS N K Wx) ((asT f e s).bind k))
    (q : ∀ w L' H' s', Pst L0 L' H0 H' → Pst L L' H H' → RelE N K L' H' σ e → RelS N K T L' H' s' → Out N K T L0 H0 (flow N K 0 D) (erS N K Wx) (k w s') → Q w H') : cT N K T Wx (asT f) σ H Q :=
  ⟨L, e, s, re, rs, ((Out.bind0 o).step p0).mono (fun w L' H' s' p z o' => q w L' H' s' (p0.trans p) p (re.pst p) z o') fun _ _ h => h σ⟩
theorem asT_bind {β : Type} {k : Bool → Sto → TT.R β} {r : TT.R W} {k' : W → Sto → TT.R β} (h : ∀ w s, k' w s = match TT.asB w with
    | some b => k b s
    | none => .no) : r.bind k' = ((r.bind fun w s => TT.R.of (TT.asB w) s).bind k) := by
  cases r with
  | ok w s =>
    simp only [TT.R.bind_ok]
    rw [h]
    cases TT.asB w <;> rfl
  | err _ _ => rfl
  | no => rfl
theorem flow_here {r : FE} (o : Out N K T L0 H0 (flow N K 0 D) (erS N K Wx) (.ok r s)) (p0 : Pst L0 L H0 H) (rs : RelS N K T L H s) : flow N K 0 D r L H s := o L H p0 rs
/-! ### plain statements -/
theorem ss_pass {c : TT.Cxt} : PS X (.Pass pos) (cS N X.K T Wx fun n => TT.evS c n .pass) := PSw ps_pass fun D σ H ⟨L0, H0, L, e, s, p, re, rs, o⟩ => by
  simp only [TT.evS] at o
  exact flow_here o p rs σ re
theorem ss_brk {c : TT.Cxt} : PS X (.Break pos) (cS N X.K T Wx fun n => TT.evS c n .brk) := PSw ps_break fun D σ H ⟨L0, H0, L, e, s, p, re, rs, o⟩ => by
  simp only [TT.evS] at o
  exact flow_here o p rs σ re
theorem ss_cnt {c : TT.Cxt} : PS X (.Continue pos) (cS N X.K T Wx fun n => TT.evS c n .cnt) := PSw ps_continue fun D σ H ⟨L0, H0, L, e, s, p, re, rs, o⟩ => by
  simp only [TT.evS] at o
  exact flow_here o p rs σ re
theorem ss_retN {c : TT.Cxt} : PS X (.Return none pos) (cS N X.K T Wx fun n => TT.evS c n .retN) := PSw ps_retN fun D σ H ⟨L0, H0, L, e, s, p, re, rs, o⟩ => by
  simp only [TT.evS] at o
  exact flow_here o p rs .non .non
theorem ss_ret {c : TT.Cxt} {x : TT.E} (h : PE X a (cE N X.K T Wx (TT.evE c x))) : PS X (.Return (some a) pos) (cS N X.K T Wx fun n => TT.evS c n (.ret x)) := PSw (ps_ret h) fun D σ H ⟨L0, H0, L, e, s, p, re, rs, o⟩ => by
  simp only [TT.evS] at o
  exact sE_then p re rs o fun w L' H' s' v p0 p1 re1 rs1 rv o1 => flow_here o1 p0 rs1 v rv
theorem ss_ex {c : TT.Cxt} {x : TT.E} (h : PE X a (cE N X.K T Wx (TT.evE c x))) (hc : noComp a = true) : PS X (.Expr a pos) (cS N X.K T Wx fun n => TT.evS c n (.ex x)) := PSw (ps_expr h (swaps_no hc)) fun D σ H ⟨L0, H0, L, e, s, p, re, rs, o⟩ => by
  simp only [TT.evS] at o
  exact sE_then p re rs o fun w L' H' s' v p0 p1 re1 rs1 rv o1 => flow_here o1 p0 rs1 σ re1
theorem ss_ite {c : TT.Cxt} {x : TT.E} {sa sb : List Stmt} {ya yb : TT.Ss} (h : PT X a (cT N X.K T Wx (asT (TT.evE c x)))) (ha : PSs X sa (cS N X.K T Wx fun n => TT.evSs c n ya)) (hb : PSs X sb (cS N X.K T Wx fun n => TT.evSs c n yb)) :
    PS X (.If a sa sb pos) (cS N X.K T Wx fun n => TT.evS c n (.ite x ya yb)) := PSw (ps_if h ha hb) fun D σ H ⟨L0, H0, L, e, s, p, re, rs, o⟩ => by
  simp only [TT.evS] at o
  rw [asT_bind (k := fun b s => if b then TT.evSs c L0.length ya e s else TT.evSs c L0.length yb e s) fun w s => by
    cases TT.asB w with
    | none => rfl
    | some b => cases b <;> rfl] at o
  refine sT_then p re rs o fun w L' H' s' p0 p1 re1 rs1 o1 => ?_
  cases w with
  | true => exact ⟨L0, H0, L', e, s', p0, re1, rs1, o1⟩
  | false => exact ⟨L0, H0, L', e, s', p0, re1, rs1, o1⟩
/-! ### stores -/
theorem asg_then {c : TT.Cxt} {x : TT.E} {t : TT.Tg} (D : Ends) (σ : L2.St) (H : Hp) (h : cS N K T Wx (fun n => TT.evS c n (.asg t x)) D σ H) : tAsg (cE N K T Wx (TT.evE c x)) (gT K t) D σ H := by
  obtain ⟨L0, H0, L, e, s, p, re, rs, o⟩ := h
  simp only [TT.evS] at o
  refine sE_then p re rs o fun w L' H' s' v p0 p1 re1 rs1 rv o1 => ?_
  cases h1 : TT.tgSem t w e with
  | none => rw [h1] at o1; exact False.elim o1
  | some e' =>
    rw [h1] at o1
    exact tg_then re1 rv h1 fun σ' re' _ => flow_here o1 p0 rs1 σ' re'
theorem ss_asgN {c : TT.Cxt} {x : TT.E} {i : Nat} {y : Str} {py : Pos} (hN : X.N.Nodup) (h : PE X a (cE N X.K T Wx (TT.evE c x))) (ht : TgNm X y i) (hs : swapsWith a (some (.Name y py)) pos.line X.env = pure false) :
    PS X (.Assign [.Name y py] a pos) (cS N X.K T Wx fun n => TT.evS c n (.asg (.nm i) x)) :=
  PSw (ps_set hN ht.at_ ht.loc h hs ht.own) fun D σ H q => asg_then D σ H q
theorem ss_asgT {c : TT.Cxt} {x : TT.E} {is : List Nat} {es : List Expr} {k : Nat} {p : Pos} (hN : X.N.Nodup) (hc : X.calm = true) (h : PE X a (cE N X.K T Wx (TT.evE c x))) (ht : TgNms X es is) (hs : swapsWith a (some (.Tuple es k p)) pos.line X.env = pure false) (hw : swappedStores [.Tuple es k p] a X.env = pure none) :
    PS X (.Assign [.Tuple es k p] a pos) (cS N X.K T Wx fun n => TT.evS c n (.asg (.tp is) x)) :=
  PSw (ps_asg h (pg_tp hN hc ht) hs hw rfl) fun D σ H q => asg_then D σ H q
theorem ss_asgLc {c : TT.Cxt} {i : Nat} {y : Str} {py : Pos} {iter elt : Expr} {ifs : List Expr} {scope : Scope} {own : List (Str × Nat)} {lpos : Pos} {fz : Bool} {t : TT.Tg} {it : TT.It} {es : TT.Es} {x : TT.E} (hc : X.calm = true) (hN : X.N.Nodup) (hy : TgNm X y i) (hyl : X.env.scope.names.lookup y = some .local)
    (hsw : swapsWith (.ListComp elt [⟨tg, iter, ifs, 0⟩] scope lpos) (some (.Name y py)) pos.line X.env = pure true) (hi : PI X tg iter (cI N X.K T Wx (TT.evI c it))) (ok : BlkOk X.N X.env.scope scope own) (ht : ∀ i ∈ tgs t, i ∈ own.map (·.2)) (hs : noSet iter = true)
    (hb : ∀ (s : Shared) (H : Hp) (C : Addr) (cl : List (Str × Addr)) (fp : List Addr), LcOk N (X.blk s H scope (compEnvC scope cl C X.env) fp) T c tg ifs elt t es x) :
    PS X (.Assign [.Name y py] (.ListComp elt [⟨tg, iter, ifs, 0⟩] scope lpos) pos) (cS N X.K T Wx fun n => TT.evS c n (.asg (.nm i) (.lc fz (own.map (·.2)) t it es x))) :=
  PSw (ps_setLc (wi := cI N X.K T Wx (TT.evI c it)) (g := gT X.K t) (tt := cT N X.K T Wx0 (TT.evC c es)) (te := cE N X.K T Wx0 (TT.evE c x)) hc hN hy.at_ hyl hsw hi ok (fun s H C cl fp => (hb s H C cl fp).g) (fun s H C cl fp => (hb s H C cl fp).t) (fun s H C cl fp => (hb s H C cl fp).e) (folded_no hs))
    fun D σ H q => lc_then (N := N) (K := X.K) (T := T) (Wx := Wx) c fz _ t it es x ht σ H (fun v H1 => gName i v σ H1 D.nx) (asg_then (t := .nm i) D σ H q)
/-- a, b = x, y -/
theorem ss_par2 {c : TT.Cxt} {i j : Nat} {x y : Str} {xs : TT.Es} {px py pt : Pos} {kt k2 pt2} (hc : X.calm = true) (hN : X.N.Nodup) (hi : X.N[i]? = some x) (hj : X.N[j]? = some y) (hij : i ≠ j)
    (hx : X.env.scope.names.lookup x = some .local) (hy : X.env.scope.names.lookup y = some .local) (ha : PA X [a, b] (cA N X.K T Wx (TT.evEs c xs)))
    (hw : swappedStores [.Tuple [.Name x px, .Name y py] kt pt] (.Tuple [a, b] k2 pt2) X.env = pure (some [x, y])) :
    PS X (.Assign [.Tuple [.Name x px, .Name y py] kt pt] (.Tuple [a, b] k2 pt2) pos) (cS N X.K T Wx fun n => TT.evS c n (.par [i, j] xs)) :=
  PSw (ps_par hc hN hi hj hij hx hy ha hw rfl) fun D σ H ⟨L0, H0, L, e, s, p, re, rs, o⟩ => by
    simp only [TT.evS] at o
    refine sA_then p re rs o fun ws L' H' s' vs p0 p1 re1 rs1 rv o1 => ?_
    split at o1
    · rename_i hl
      cases rv with
      | nil => simp at hl
      | cons r1 t1 =>
        cases t1 with
        | nil => simp at hl
        | cons r2 t2 =>
          cases t2 with
          | cons _ _ => simp at hl
          | nil => exact ⟨_, _, rfl, flow_here o1 p0 rs1 _ ((re1.set i r1).set j r2)⟩
    · exact False.elim o1
theorem ss_par3 {c : TT.Cxt} {i j l : Nat} {x y z : Str} {xs : TT.Es} {d : Expr} {px py pz pt : Pos} {kt k2 pt2} (hc : X.calm = true) (hN : X.N.Nodup) (hi : X.N[i]? = some x) (hj : X.N[j]? = some y) (hl : X.N[l]? = some z) (hij : i ≠ j) (hil : i ≠ l) (hjl : j ≠ l)
    (hx : X.env.scope.names.lookup x = some .local) (hy : X.env.scope.names.lookup y = some .local) (hz : X.env.scope.names.lookup z = some .local) (ha : PA X [a, b, d] (cA N X.K T Wx (TT.evEs c xs)))
    (hw : swappedStores [.Tuple [.Name x px, .Name y py, .Name z pz] kt pt] (.Tuple [a, b, d] k2 pt2) X.env = pure (some [x, y, z])) :
    PS X (.Assign [.Tuple [.Name x px, .Name y py, .Name z pz] kt pt] (.Tuple [a, b, d] k2 pt2) pos) (cS N X.K T Wx fun n => TT.evS c n (.par [i, j, l] xs)) :=
  PSw (ps_par3 hc hN hi hj hl hij hil hjl hx hy hz ha hw rfl) fun D σ H ⟨L0, H0, L, e, s, p, re, rs, o⟩ => by
    simp only [TT.evS] at o
    refine sA_then p re rs o fun ws L' H' s' vs p0 p1 re1 rs1 rv o1 => ?_
    split at o1
    · rename_i hl
      cases rv with
      | nil => simp at hl
      | cons r1 t1 =>
        cases t1 with
        | nil => simp at hl
        | cons r2 t2 =>
          cases t2 with
          | nil => simp at hl
          | cons r3 t3 =>
            cases t3 with
            | cons _ _ => simp at hl
            | nil => exact ⟨_, _, _, rfl, flow_here o1 p0 rs1 _ (((re1.set i r1).set j r2).set l r3)⟩
    · exact False.elim o1
theorem asD_ok {w : W} {d : TT.D} (h : TT.asD w = some d) : w = .d d := by
  unfold TT.asD at h
  split at h
  · cases h; rfl
  · cases h
theorem ixOf_ixN {n : Nat} {i : Int} {k : Nat} (h : TT.ixOf n i = some k) : ixN n i = some k := by
  unfold TT.ixOf at h
  unfold ixN
  exact h
/-- o[i] = x of a list -/
theorem ss_sub {c : TT.Cxt} {o i v : Expr} {xo xi xv : TT.E} {pt : Pos} (ho : PE X o (cE N X.K T Wx (TT.evE c xo))) (hi : PE X i (cE N X.K T Wx (TT.evE c xi))) (hv : PE X v (cE N X.K T Wx (TT.evE c xv))) (hsl : noSlice i = true) (hc : noComp v = true) (hw : noTup v = true)
    (ha : ∀ u, assign (.Subscript o i pt) X.env u = (do
      let ov ← holding [u] (eval o X.env)
      let iv ← holding [u, ov] (eval i X.env)
      standAt pt
      holding [u, ov, iv] (setItem ov iv u)
      release [u, ov, iv] [])) :
    PS X (.Assign [.Subscript o i pt] v pos) (cS N X.K T Wx fun n => TT.evS c n (.sub xo xi xv)) :=
  PSw (ps_asg hv (pg_sub ho hi set_list ha) (swaps_no (t := some (.Subscript o i pt)) (l := pos.line) (env := X.env) hc) (stores_no hw) rfl) fun D σ H ⟨L0, H0, L, e, s, p, re, rs, o⟩ => by
    simp only [TT.evS] at o
    refine sE_then p re rs o fun w L1 H1 s1 v1 p1 q1 re1 rs1 r1 o1 => sE_then p1 re1 rs1 o1 fun x L2 H2 s2 v2 p2 q2 re2 rs2 r2 o2 => sE_then p2 re2 rs2 o2 fun y L3 H3 s3 v3 p3 q3 re3 rs3 r3 o3 => ?_
    split at o3
    · rename_i l j d e1 e2
      split at o3
      · rename_i ds e3
        split at o3
        · rename_i k e4
          obtain ⟨b, eb, mb, rm⟩ := rs3.loc e3 (fun q => nomatch q)
          have r2' := r2.pst q3
          obtain ⟨a', ea, rfl⟩ := r2'
          rw [ea] at eb; cases eb
          cases rm with
          | lst hh rr =>
            have ey := asI_ok e1
            subst ey
            have ew := asD_ok e2
            subst ew
            refine ⟨_, _, j, k, rfl, RepD.int_inv r3, hh, ixOf_ixN (by rw [rr.len]; exact e4), ?_⟩
            have rw' := (r1.pst q2).pst q3
            have rs4 := rs3.write (m := .lst (ds.set k d)) ea (show isMut (.lst _) from trivial) (.lst upd_same ((rr.set k rw').keeps (Pst.write mb).keeps))
            exact flow_here o3 (p3.trans (Pst.write mb)) rs4 σ (re3.pst (Pst.write mb))
        · exact False.elim o3
      · exact False.elim o3
    · exact False.elim o3
end
end TS

set_option maxRecDepth 100000
/-! More statements: dicts, fields, errors, loops, sequences. -/
namespace TS
open PySem PySem.Spec PyProof.Rows L2
section
variable {N : Nm} {K : PySem.W.Frag} {T : List (Addr × Str)} {L L' : Loc} {H H' : Hp} {s : Sto}
theorem put_rep {κ : Type} [DecidableEq κ] {g : κ → TT.D} (inj : ∀ a b, g a = g b → a = b) {k : κ} {v : L2.V} {d : TT.D} {kvs : List (κ × L2.V)} {vs : List TT.D} (r : RepDs N K L H (kvs.map (·.2)) vs) (rv : RepD N K L H v d) :
    TT.putKs (g k) (kvs.map fun p => g p.1) = (putK kvs k v).map (fun p => g p.1) ∧ RepDs N K L H ((putK kvs k v).map (·.2)) (TT.putVs (g k) d (kvs.map fun p => g p.1) vs) := by
  have hm : (kvs.any fun kv => decide (kv.1 = k)) = decide (g k ∈ kvs.map fun p => g p.1) := by
    clear r rv
    induction kvs with
    | nil => simp
    | cons p r ih =>
      simp only [List.any_cons, ih, List.map_cons, List.mem_cons, Bool.decide_or]
      congr 1
      exact decide_eq_decide.mpr ⟨fun q => by rw [q], fun q => inj _ _ q.symm⟩
  unfold putK TT.putKs TT.putVs
  by_cases h : g k ∈ kvs.map fun p => g p.1
  · have hm' : (kvs.any fun kv => decide (kv.1 = k)) = true := by rw [hm]; exact decide_eq_true h
    simp only [hm', h, if_true]
    refine ⟨?_, ?_⟩
    · clear r hm hm' h
      induction kvs with
      | nil => rfl
      | cons p r ih =>
        simp only [List.map_cons]
        rw [← ih]
        congr 1
        split <;> rfl
    · clear hm hm' h
      induction kvs generalizing vs with
      | nil => cases r; exact .nil
      | cons p t ih =>
        cases r with
        | cons r1 r2 =>
          simp only [List.map_cons, TT.repVs]
          refine .cons ?_ (ih r2)
          by_cases e : p.1 = k
          · rw [if_pos e, if_pos (by rw [e])]; exact rv
          · rw [if_neg e, if_neg fun q => e (inj _ _ q)]; exact r1
  · have hm' : (kvs.any fun kv => decide (kv.1 = k)) = false := by rw [hm]; exact decide_eq_false h
    simp only [hm', h, if_false, Bool.false_eq_true]
    refine ⟨by simp, ?_⟩
    rw [List.map_append]
    exact r.app (.cons rv .nil)
theorem putF_rep' (ok : NmOk N K) {f : Nat} {v : L2.V} {d : TT.D} (rv : RepD N K L H v d) : ∀ {fs : List (Str × L2.V)} {ks : List Nat} {vs : List TT.D}, fs.map (·.1) = ks.map N.an → RepDs N K L H (fs.map (·.2)) vs →
    (putF (N.an f) v fs).map (·.1) = (TT.putKs f ks).map N.an ∧ RepDs N K L H ((putF (N.an f) v fs).map (·.2)) (TT.putN f d ks vs) := by
  have key : ∀ {fs : List (Str × L2.V)} {ks : List Nat} {vs : List TT.D}, fs.map (·.1) = ks.map N.an → RepDs N K L H (fs.map (·.2)) vs →
      (putF (N.an f) v fs).map (·.1) = (if f ∈ ks then ks else ks ++ [f]).map N.an ∧ RepDs N K L H ((putF (N.an f) v fs).map (·.2)) (TT.putN f d ks vs) := by
    intro fs
    induction fs with
    | nil =>
      intro ks vs e r
      cases ks with
      | cons _ _ => simp at e
      | nil =>
        cases r
        exact ⟨by simp [putF], .cons rv .nil⟩
    | cons p fs ih =>
      intro ks vs e r
      cases ks with
      | nil => simp at e
      | cons k ks =>
        obtain ⟨g, x⟩ := p
        simp only [List.map_cons, List.cons.injEq] at e
        obtain ⟨e1, e2⟩ := e
        cases r with
        | cons r1 r2 =>
          rename_i d1 ds1
          simp only [putF, TT.putN]
          by_cases q : k = f
          · subst q
            rw [if_pos e1, if_pos rfl]
            refine ⟨?_, .cons rv r2⟩
            simp [e1, e2]
          · have ne : ¬ g = N.an f := fun z => q (ok.inj _ _ (by rw [← e1, z]))
            rw [if_neg ne, if_neg q]
            obtain ⟨h1, h2⟩ := ih e2 r2
            refine ⟨?_, .cons r1 h2⟩
            simp only [List.map_cons, h1, e1]
            have q' : ¬ f = k := fun z => q z.symm
            by_cases hm : f ∈ ks
            · simp [hm, q']
            · simp [hm, q']
  intro fs ks vs e r
  exact key e r
end
section
variable {N : Nm} {X : Cx} {T : List (Addr × Str)} {Wx : WX} {f : TT.Env → Sto → TT.R W} {a b tg : Expr} {pos : Pos} {K : PySem.W.Frag} {L0 L : Loc} {H0 H : Hp} {σ : L2.St} {e : TT.Env} {s : Sto} {D : Ends}
theorem dn_ntbl {w : World} {a : Addr} {kvs : List (TT.D × Addr × L2.V)} : ∀ ps, DN w a kvs ≠ .tbl ps := fun ps h => by unfold DN at h; cases h
theorem dnput_keys {kvs : List (TT.D × Addr × L2.V)} {k : TT.D} {b : Addr} {v : L2.V} : TT.putKs k (kvs.map (·.1)) = (dnPut kvs k b v).map (·.1) := by
  unfold TT.putKs dnPut
  rw [dnAt_mem]
  by_cases q : k ∈ kvs.map (·.1)
  · rw [if_pos q, if_pos (by simpa using q), List.map_map]
    refine List.map_congr_left fun p _ => ?_
    simp only [Function.comp_apply]
    split <;> rfl
  · rw [if_neg q, if_neg (by simpa using q)]
    simp
theorem dnput_rep {K : PySem.W.Frag} {L : Loc} {H : Hp} {kvs : List (TT.D × Addr × L2.V)} {vs : List TT.D} {k : TT.D} {b : Addr} {v : L2.V} {d : TT.D} (rr : RepDs N K L H (kvs.map (·.2.2)) vs) (rk : RepDs N K L H (kvs.map fun p => .ref p.2.1) (kvs.map (·.1))) (rv : RepD N K L H v d) (r3 : RepD N K L H (.ref b) k) :
    TT.putKs k (kvs.map (·.1)) = (dnPut kvs k b v).map (·.1) ∧ RepDs N K L H ((dnPut kvs k b v).map (·.2.2)) (TT.putVs k d (kvs.map (·.1)) vs) ∧ RepDs N K L H ((dnPut kvs k b v).map fun p => .ref p.2.1) ((dnPut kvs k b v).map (·.1)) := by
  refine ⟨dnput_keys, ?_, ?_⟩
  · unfold TT.putVs dnPut
    rw [dnAt_mem]
    by_cases q : k ∈ kvs.map (·.1)
    · rw [if_pos q, if_pos (by simpa using q)]
      clear q rk
      induction kvs generalizing vs with
      | nil => cases rr; exact .nil
      | cons p r ih =>
        cases rr with
        | cons r1 r2 =>
          simp only [List.map_cons, TT.repVs]
          refine .cons ?_ (ih r2)
          by_cases e : p.1 = k
          · rw [if_pos e, if_pos e]; exact rv
          · rw [if_neg e, if_neg e]; exact r1
    · rw [if_neg q, if_neg (by simpa using q)]
      rw [List.map_append]
      exact rr.app (.cons rv .nil)
  · unfold dnPut
    by_cases q : (dnAt kvs k).isSome = true
    · rw [if_pos q, List.map_map, List.map_map]
      rw [show kvs.map ((fun p : TT.D × Addr × L2.V => (L2.V.ref p.2.1)) ∘ fun p => if p.1 = k then (p.1, p.2.1, v) else p) = kvs.map (fun p => .ref p.2.1) from List.map_congr_left fun p _ => by simp only [Function.comp_apply]; split <;> rfl]
      rw [show kvs.map ((fun p : TT.D × Addr × L2.V => p.1) ∘ fun p => if p.1 = k then (p.1, p.2.1, v) else p) = kvs.map (·.1) from List.map_congr_left fun p _ => by simp only [Function.comp_apply]; split <;> rfl]
      exact rk
    · rw [if_neg q, List.map_append, List.map_append]
      exact rk.app (.cons r3 .nil)
theorem dnput_ok {a b : Addr} {kvs : List (TT.D × Addr × L2.V)} {k : TT.D} {v : L2.V} (ok : DnOk a kvs) (hk : TT.keyN k = true) (hl : kvs.length ≤ 10000) : DnOk a (dnPut kvs k b v) := by
  refine ⟨ok.nsys, ?_, fun p hp => ?_, ?_⟩
  · unfold dnPut
    split
    · rw [List.length_map]; exact ok.len
    · rw [List.length_append, sizeLine_eq]; simp; omega
  · unfold dnPut at hp
    split at hp
    · obtain ⟨q, hq, rfl⟩ := List.mem_map.mp hp
      split
      · exact ok.key q hq
      · exact ok.key q hq
    · rcases List.mem_append.mp hp with hp | hp
      · exact ok.key p hp
      · rw [List.mem_singleton] at hp; subst hp; exact hk
  · rw [← dnput_keys]
    unfold TT.putKs
    split
    · exact ok.nd
    · rename_i q
      rw [List.nodup_append]
      exact ⟨ok.nd, by simp, fun x hx y hy e => by rw [List.mem_singleton] at hy; subst hy; subst e; exact q hx⟩
/-- o[k] = x of a dict -/
theorem ss_dput {c : TT.Cxt} {o i v : Expr} {xo xi xv : TT.E} {pt : Pos} (hu : X.A.units + 64 < cLine) (ho : PE X o (cE N X.K T Wx (TT.evE c xo))) (hi : PE X i (cE N X.K T Wx (TT.evE c xi))) (hv : PE X v (cE N X.K T Wx (TT.evE c xv))) (hs : swapsWith v (some (.Subscript o i pt)) pos.line X.env = pure false) :
    PS X (.Assign [.Subscript o i pt] v pos) (cS N X.K T Wx fun n => TT.evS c n (.dput xo xi xv)) :=
  PSw (ps_putU hu ho hi hv hs) fun D σ H ⟨L0, H0, L, e, s, p, re, rs, o⟩ => by
    simp only [TT.evS] at o
    refine sE_then p re rs o fun w L1 H1 s1 v1 p1 q1 re1 rs1 r1 o1 => sE_then p1 re1 rs1 o1 fun x L2 H2 s2 v2 p2 q2 re2 rs2 r2 o2 => sE_then p2 re2 rs2 o2 fun y L3 H3 s3 v3 p3 q3 re3 rs3 r3 o3 => ?_
    split at o3
    · rename_i l k d e1 e2
      split at o3
      · rename_i t ks vs e3
        split at o3
        · rename_i e4
          rw [Bool.and_eq_true] at e4
          obtain ⟨e4, e5⟩ := e4
          obtain ⟨b, eb, mb, rm⟩ := rs3.loc e3 (fun q => nomatch q)
          obtain ⟨a', ea, rfl⟩ := r2.pst q3
          rw [ea] at eb; cases eb
          have ey := asD_ok e1
          subst ey
          have ew := asD_ok e2
          subst ew
          have rv := (r1.pst q2).pst q3
          have sm := of_decide_eq_true e5
          have kp := (Pst.write (H := H3) (o := HO.dK []) mb).keeps
          cases rm with
          | dK hh rr =>
            rename_i kvs
            obtain ⟨q, rfl⟩ := key1_ex (by simpa [TT.keysOk] using e4)
            obtain ⟨h1, h2⟩ := put_rep (g := kD) (k := q) (fun _ _ => kD_inj) rr rv
            have ey : v3 = kV q := RepD.kV_inv r3
            subst ey
            rw [show TT.kindK 0 (kD q) = 0 from rfl, h1] at o3
            have rs4 := rs3.write (m := .dct 0 ((putK kvs q v1).map fun p => kD p.1) (TT.putVs (kD q) d (kvs.map fun p => kD p.1) vs)) ea (show isMut (.dK _) from trivial) (.dK upd_same (h2.keeps (Pst.write mb).keeps))
            exact ⟨_, _, rfl, .inl ⟨DPut.k hh (by simp at sm; rw [sizeLine_eq]; omega), flow_here o3 (p3.trans (Pst.write mb)) rs4 σ (re3.pst (Pst.write mb))⟩⟩
          | dT hh rr =>
            rename_i kvs
            obtain ⟨q, rfl⟩ := keyT_ex (by simpa [TT.keysOk] using e4)
            obtain ⟨h1, h2⟩ := put_rep (g := kT) (k := q) (fun _ _ => kT_inj) rr rv
            obtain ⟨b, rfl, hb⟩ := RepD.kT_inv r3
            rw [show TT.kindK 1 (kT q) = 1 from rfl, h1] at o3
            have rs4 := rs3.write (m := .dct 1 ((putK kvs q v1).map fun p => kT p.1) (TT.putVs (kT q) d (kvs.map fun p => kT p.1) vs)) ea (show isMut (.dT _) from trivial) (.dT upd_same (h2.keeps (Pst.write mb).keeps))
            exact ⟨_, _, rfl, .inl ⟨DPut.t hh hb (by simp at sm; rw [sizeLine_eq]; omega), flow_here o3 (p3.trans (Pst.write mb)) rs4 σ (re3.pst (Pst.write mb))⟩⟩
          | d3 hh =>
            simp only [TT.keysOk, Bool.or_eq_true] at e4
            by_cases q1 : TT.key1 k = true
            · obtain ⟨q, rfl⟩ := key1_ex q1
              have ey : v3 = kV q := RepD.kV_inv r3
              subst ey
              rw [show TT.kindK 3 (kD q) = 0 by simp [TT.kindK, q1]] at o3
              have rs4 := rs3.write (m := .dct 0 ((putK [] q v1).map fun p => kD p.1) [d]) ea (show isMut (.dK _) from trivial) (.dK upd_same (.cons (RepD.keeps (Pst.write mb).keeps rv) .nil))
              exact ⟨_, _, rfl, .inl ⟨DPut.k hh (by rw [sizeLine_eq]; simp), flow_here o3 (p3.trans (Pst.write mb)) rs4 σ (re3.pst (Pst.write mb))⟩⟩
            · have q2 : TT.keyN k = true := e4.resolve_left q1
              obtain ⟨bk, rfl, hb⟩ := RepD.keyN_inv q2 r3
              rw [show TT.kindK 3 k = 2 by simp [TT.kindK, q1]] at o3
              refine ⟨_, _, rfl, .inr ⟨⟨bk, k, rfl, q2, hb, .inr ⟨hh, rfl⟩⟩, fun e0 => ?_⟩⟩
              have rs4 := rs3.write (o := DN X.w b [(k, bk, v1)]) (m := .dct 2 [k] [d]) ea (show isMut (DN X.w b _) from dn_phi _ _ _) (.dN upd_same ⟨e0, by rw [sizeLine_eq]; simp, by simpa using q2, by simp⟩ (.cons (RepD.keeps (Pst.write mb (ho := dn_ntbl)).keeps r3) .nil) (.cons (RepD.keeps (Pst.write mb (ho := dn_ntbl)).keeps rv) .nil))
              exact flow_here o3 (p3.trans (Pst.write mb (ho := dn_ntbl))) rs4 σ (re3.pst (Pst.write mb (ho := dn_ntbl)))
          | dN hh ok rk rr =>
            rename_i w kvs
            have q2 : TT.keyN k = true := by simpa [TT.keysOk] using e4
            obtain ⟨bk, rfl, hb⟩ := RepD.keyN_inv q2 r3
            obtain ⟨h1, h2, h3⟩ := dnput_rep (b := bk) (k := k) rr rk rv r3
            rw [show TT.kindK 2 k = 2 from rfl, h1] at o3
            have lm : kvs.length ≤ 10000 := by simpa using sm
            have rs4 := rs3.write (o := DN X.w b (dnPut kvs k bk v1)) (m := .dct 2 ((dnPut kvs k bk v1).map (·.1)) (TT.putVs k d (kvs.map (·.1)) vs)) ea (show isMut (DN X.w b _) from dn_phi _ _ _) (.dN upd_same (dnput_ok ok q2 lm) (h3.keeps (Pst.write mb (ho := dn_ntbl)).keeps) (h2.keeps (Pst.write mb (ho := dn_ntbl)).keeps))
            exact ⟨_, _, rfl, .inr ⟨⟨bk, k, rfl, q2, hb, .inl ⟨w, kvs, hh, ok, by rw [sizeLine_eq]; omega, keys_dp ok.key rk, rfl⟩⟩, fun _ => flow_here o3 (p3.trans (Pst.write mb (ho := dn_ntbl))) rs4 σ (re3.pst (Pst.write mb (ho := dn_ntbl)))⟩⟩
        · exact False.elim o3
      · exact False.elim o3
    · exact False.elim o3
/-- o.f = x -/
theorem ss_fld {c : TT.Cxt} {o v : Expr} {xo xv : TT.E} {k : Nat} {m : Str} {pt : Pos} (ok : NmOk N X.K) (ho : PE X o (cE N X.K T Wx (TT.evE c xo))) (hv : PE X v (cE N X.K T Wx (TT.evE c xv))) (hk : k < N.as.length) (hm : m = N.an k) (hs : swapsWith v (some (.Attribute o m pt)) pos.line X.env = pure false) :
    PS X (.Assign [.Attribute o m pt] v pos) (cS N X.K T Wx fun n => TT.evS c n (.fld xo k xv)) := by
  subst hm
  refine PSw (ps_fld ho hv hs) fun D σ H ⟨L0, H0, L, e, s, p, re, rs, o⟩ => ?_
  simp only [TT.evS] at o
  refine sE_then p re rs o fun w L1 H1 s1 v1 p1 q1 re1 rs1 r1 o1 => sE_then p1 re1 rs1 o1 fun x L2 H2 s2 v2 p2 q2 re2 rs2 r2 o2 => ?_
  split at o2
  · rename_i l d e2
    split at o2
    · rename_i cl ks vs e3
      split at o2
      · rename_i e4
        obtain ⟨b, eb, mb, rm⟩ := rs2.loc e3 (fun q => nomatch q)
        obtain ⟨a', ea, rfl⟩ := r2
        rw [ea] at eb; cases eb
        have ew := asD_ok e2
        subst ew
        have rv := r1.pst q2
        cases rm with
        | obj hc hh en rr =>
          rename_i dx fs
          obtain ⟨h1, h2⟩ := putF_rep' ok rv en rr
          have rs4 := rs2.write (o := .ins (N.ca X.K cl) dx (putF (N.an k) v1 fs)) (m := .obj cl (TT.putKs k ks) (TT.putN k d ks vs)) ea (show isMut (.ins _ _ _) from trivial) (.obj hc upd_same h1 (h2.keeps (Pst.write mb).keeps))
          have ln : fs.length = ks.length := by
            have := congrArg List.length en
            simpa using this
          exact ⟨_, _, dx, fs, rfl, hh, ok.cls _ hc, ok.noat _ _ hc hk, by rw [ln]; omega, flow_here o2 (p2.trans (Pst.write mb)) rs4 σ (re2.pst (Pst.write mb))⟩
      · exact False.elim o2
    · exact False.elim o2
  · exact False.elim o2
/-- raise X('..') -/
theorem ss_raise {c : TT.Cxt} {k : Nat} {m : Str} {j : Nat} {x : Str} {p p2 p3 : Pos} {bmB : List Value} {B newId initId : String} (hc : X.calm = true) (tk : L2.Takes X Wx) (F : ExcBaseFacts B newId initId bmB) (q : PySem.W.excIn X.K (N.ea X.K k) bmB newId = true) (gC : X.mg x = some (.ref (N.ea X.K k))) (kC : PySem.W.keepIn X.K (.ref (N.ea X.K k)) = true)
    (r : Raises X (.ref (N.ea X.K k))) (hg : Gl X x) (hdb : (x == ("__debug__" : Str)) = false) : PS X (.Raise (some (.Call (.Name x p) [.Constant (.str m) j p2] [] p3)) none pos) (cS N X.K T Wx fun n => TT.evS c n (.raise k)) :=
  PSw (ps_raise hc tk (pmk_own F q gC kC r hg hdb)) fun D σ H ⟨L0, H0, L, e, s, p, re, rs, o⟩ => by
    simp only [TT.evS] at o
    exact o L H p rs σ
/-! ### loops -/
theorem ss_for {c : TT.Cxt} {iter : Expr} {body : List Stmt} {t : TT.Tg} {it : TT.It} {kill : List Nat} {y : TT.Ss} (hp : PassesOwn (model X.prog X.w) X.A X.env X.xe) (hc : X.calm = true) (hi : PI X tg iter (cI N X.K T Wx (TT.evI c it))) (hg : PG X tg (gT X.K t)) (hs : noSet iter = true)
    (hb : PSs X body (cS N X.K T Wx fun n => TT.evSs c n y)) : PS X (.For tg iter body [] pos) (cS N X.K T Wx fun n => TT.evS c n (.for t it kill y)) :=
  PSw (ps_for hp hc hi hg hb (folded_no hs)) fun D σ H ⟨L0, H0, L, e, s, p, re, rs, o⟩ => by
    simp only [TT.evS] at o
    refine ⟨L, e, s, re, rs, ((Out.bind0 o).step p).mono (fun g L1 H1 s1 p1 rs1 o1 J wk => ?_) fun _ _ h => h σ⟩
    have p01 := p.trans p1
    have ln1 : s1.length = L1.length := rs1.len.symm
    refine ⟨fun i m σ2 H2 => ∃ (L2 : Loc) (e2 : TT.Env) (s2 : Sto), i + m = g.1.length ∧ Pst L1 L2 H1 H2 ∧ RelE N X.K L2 H2 σ2 e2 ∧ RelS N X.K T L2 H2 s2 ∧
      Out N X.K T L0 H0 (flow N X.K 0 D) (erS N X.K Wx) (TT.forL (TT.forF t kill fun e s' => TT.evSs c s1.length y e s') g (g.1.drop i) e2 s2), ⟨g.1.length, L1, e, s1, by simp, Pst.refl _ _, re.pst p1, rs1, by simpa using o1⟩, ?_⟩
    rintro i m σ2 H2 ⟨L2, e2, s2, him, p2, re2, rs2, o2⟩
    cases hx : g.1.drop i with
    | nil =>
      left
      rw [hx] at o2
      simp only [TT.forL] at o2
      split at o2
      · rename_i st
        have hi : i = g.1.length := by
          have := List.drop_eq_nil_iff.mp hx
          omega
        refine ⟨by rw [hi]; exact (wk L2 H2 s2 p2 rs2 st).2, ?_⟩
        exact flow_here o2 (p01.trans p2) rs2 σ2 re2
      · exact False.elim o2
    | cons x xs =>
      right
      rw [hx] at o2
      simp only [TT.forL] at o2
      split at o2
      · rename_i st
        have hy : g.1[i]? = some x := by
          have := congrArg (·[0]?) hx
          simpa using this
        have hys : g.1.drop (i + 1) = xs := by
          have := congrArg (List.drop 1) hx
          simpa [List.drop_drop, Nat.add_comm] using this
        have hi : i < g.1.length := (List.getElem?_eq_some_iff.mp hy).1
        obtain ⟨go, yl⟩ := (wk L2 H2 s2 p2 rs2 st).1 i x hy
        refine ⟨go, _, fun σ' H' hN => ⟨m - 1, by omega, hN⟩, fun v H3 yv => ?_⟩
        obtain ⟨p3, rs3, rv⟩ := yl v H3 yv
        have re3 := re2.pst p3
        unfold TT.forF at o2
        cases ht' : TT.tgSem t (.d x) e2 with
        | none => simp only [ht'] at o2; exact False.elim o2
        | some e' =>
          simp only [ht'] at o2
          refine tg_then (w := .d x) re3 rv ht' fun σ3 re3' _ => ?_
          rw [TT.R.bind_assoc] at o2
          refine ⟨L1, H1, L2, e', s2, p2.trans p3, re3', rs3, ?_⟩
          rw [← ln1]
          refine ((Out.bind0 o2).step p01).mono (fun r L4 H4 s4 p4 rs4 o4 => ?_) fun _ _ h => h
          obtain ⟨fl, e4⟩ := r
          simp only [TT.R.bind_ok] at o4
          cases fl with
          | nx => exact fun σ' re4 => ⟨L4, _, s4, by omega, p4, re4.kill kill, rs4, by rw [hys]; exact o4⟩
          | cnt => exact fun σ' re4 => ⟨L4, _, s4, by omega, p4, re4.kill kill, rs4, by rw [hys]; exact o4⟩
          | brk => exact fun σ' re4 => flow_here o4 (p01.trans p4) rs4 σ' (re4.kill kill)
          | ret w => exact fun v rv => flow_here o4 (p01.trans p4) rs4 v rv
      · exact False.elim o2
theorem ss_whl {c : TT.Cxt} {body : List Stmt} {x : TT.E} {m : Nat} {kill : List Nat} {y : TT.Ss} (hp : PassesOwn (model X.prog X.w) X.A X.env X.xe) (hc : PT X a (cT N X.K T Wx (asT (TT.evE c x))))
    (hb : PSs X body (cS N X.K T Wx fun n => TT.evSs c n y)) : PS X (.While a body [] pos) (cS N X.K T Wx fun n => TT.evS c n (.whl m x kill y)) :=
  PSw (ps_while hp hc hb) fun D σ H ⟨L0, H0, L, e, s, p, re, rs, o⟩ => by
    simp only [TT.evS] at o
    have ln1 : s.length = L.length := rs.len.symm
    refine ⟨fun m σ2 H2 => ∃ (L2 : Loc) (e2 : TT.Env) (s2 : Sto), Pst L L2 H H2 ∧ RelE N X.K L2 H2 σ2 e2 ∧ RelS N X.K T L2 H2 s2 ∧
      Out N X.K T L0 H0 (flow N X.K 0 D) (erS N X.K Wx) (TT.whlL (fun e s => TT.evE c x e s) (TT.whlF kill fun e s' => TT.evSs c s.length y e s') m e2 s2), ⟨m, L, e, s, Pst.refl _ _, re, rs, o⟩, ?_⟩
    rintro n σ2 H2 ⟨L2, e2, s2, p2, re2, rs2, o2⟩
    cases n with
    | zero => exact False.elim o2
    | succ n =>
      simp only [TT.whlL] at o2
      rw [asT_bind (k := fun b s1 => if b then (TT.whlF kill (fun e s' => TT.evSs c s.length y e s') e2 s1).bind fun r s' => match r.1 with
        | .nx => TT.whlL (fun e s => TT.evE c x e s) (TT.whlF kill fun e s' => TT.evSs c s.length y e s') n r.2 s'
        | .cnt => TT.whlL (fun e s => TT.evE c x e s) (TT.whlF kill fun e s' => TT.evSs c s.length y e s') n r.2 s'
        | .brk => .ok (.nx, r.2) s'
        | .ret w => .ok (.ret w, r.2) s' else .ok (.nx, e2) s1) fun w s => by
          cases TT.asB w with
          | none => rfl
          | some b => cases b <;> rfl] at o2
      refine sT_then (f := TT.evE c x) (p.trans p2) re2 rs2 o2 fun b L3 H3 s3 p03 p3 re3 rs3 o3 => ?_
      cases b with
      | false => exact flow_here o3 p03 rs3 σ2 re3
      | true =>
        simp only [if_true] at o3 ⊢
        refine ⟨_, fun σ' H' hN => ⟨n, Nat.lt_succ_self n, hN⟩, L, H, L3, e2, s3, p2.trans p3, re3, rs3, ?_⟩
        unfold TT.whlF at o3
        rw [TT.R.bind_assoc, ln1] at o3
        refine ((Out.bind0 o3).step p).mono (fun r L4 H4 s4 p4 rs4 o4 => ?_) fun _ _ h => h
        obtain ⟨fl, e4⟩ := r
        simp only [TT.R.bind_ok] at o4
        cases fl with
        | nx => exact fun σ' re4 => ⟨L4, _, s4, p4, re4.kill kill, rs4, by rw [ln1]; exact o4⟩
        | cnt => exact fun σ' re4 => ⟨L4, _, s4, p4, re4.kill kill, rs4, by rw [ln1]; exact o4⟩
        | brk => exact fun σ' re4 => flow_here o4 (p.trans p4) rs4 σ' (re4.kill kill)
        | ret w => exact fun v rv => flow_here o4 (p.trans p4) rs4 v rv
/-! ### one after another -/
theorem sq_nil {c : TT.Cxt} : PSs X [] (cS N X.K T Wx fun n => TT.evSs c n .nil) := PSsw pss_nil fun D σ H ⟨L0, H0, L, e, s, p, re, rs, o⟩ => flow_here o p rs σ re
theorem sq_cons {c : TT.Cxt} {st : Stmt} {sts : List Stmt} {x : TT.S} {xs : TT.Ss} (h : PS X st (cS N X.K T Wx fun n => TT.evS c n x)) (t : PSs X sts (cS N X.K T Wx fun n => TT.evSs c n xs)) : PSs X (st :: sts) (cS N X.K T Wx fun n => TT.evSs c n (.cons x xs)) :=
  PSsw (pss_cons h t) fun D σ H ⟨L0, H0, L, e, s, p, re, rs, o⟩ => by
    simp only [TT.evSs] at o
    refine ⟨L0, H0, L, e, s, p, re, rs, (Out.bind0 o).mono (fun r L' H' s' p' rs' o' => ?_) fun _ _ h => h⟩
    obtain ⟨fl, e'⟩ := r
    cases fl with
    | nx => exact fun σ' re' => ⟨L0, H0, L', e', s', p', re', rs', o'⟩
    | cnt => exact flow_here (Wx := Wx) o' p' rs'
    | brk => exact flow_here (Wx := Wx) o' p' rs'
    | ret w => exact flow_here (Wx := Wx) o' p' rs'
/-! ### notes on the store -/
theorem RelE.unName {l : Nat} (r : RelE N K L H σ e) (L' : Loc) (h : ∀ (i : Nat) (v : L2.V) (w : W), w ≠ .loc l → RepW N K L H v w → RepW N K L' H v w) : RelE N K L' H σ (TT.unName l e) := by
  refine ⟨by simp [TT.unName, r.len], fun i w q => ?_⟩
  unfold TT.unName at q
  rw [List.getElem?_map] at q
  cases h1 : e[i]? with
  | none => rw [h1] at q; cases q
  | some u =>
    rw [h1] at q
    simp only [Option.map_some, Option.some.injEq] at q
    split at q
    · cases q
    · rename_i ne
      subst q
      obtain ⟨v, h2, h3⟩ := r.at_ i w h1
      exact ⟨v, h2, h i v w (fun z => ne (by rw [z])) h3⟩
theorem repW_less {L' : Loc} {l : Nat} {v : L2.V} {w : W} (mem : ∀ a, some a ∈ L' → some a ∈ L) (at_ : ∀ j, j ≠ l → ∀ a, L[j]? = some (some a) → L'[j]? = some (some a)) (ne : w ≠ .loc l) (r : RepW N K L H v w) : RepW N K L' H v w := by
  cases w with
  | d x => exact RepD.keeps (L := L) ⟨fun a _ n _ _ q => n (mem a q), fun a u h _ _ => h⟩ r
  | loc j =>
    obtain ⟨a, e, rfl⟩ := r
    exact ⟨a, at_ j (fun z => ne (by rw [z])) a e, rfl⟩
theorem pre_drop (p : ∃ X, L = L0 ++ X) (h : L0.length < L.length) : ∃ X, L.dropLast = L0 ++ X := by
  obtain ⟨X, rfl⟩ := p
  have : X ≠ [] := fun z => by subst z; simp at h
  exact ⟨X.dropLast, by rw [List.dropLast_append_of_ne_nil this]⟩
theorem pre_kill {l : Nat} (p : ∃ X, L = L0 ++ X) (h : L0.length ≤ l) : ∃ X, L.set l none = L0 ++ X := by
  obtain ⟨X, rfl⟩ := p
  exact ⟨X.set (l - L0.length) none, by rw [List.set_append_right _ _ h]⟩
theorem sq_ghost {c : TT.Cxt} {sts : List Stmt} {x : TT.S} {xs : TT.Ss} (t : PSs X sts (cS N X.K T Wx fun n => TT.evSs c n xs))
    (h : ∀ (L0 : Loc) (H0 : Hp) (L : Loc) (H : Hp) (σ : L2.St) (e : TT.Env) (s : Sto), Pst L0 L H0 H → RelE N X.K L H σ e → RelS N X.K T L H s → TT.evS c L0.length x e s = .no ∨
      ∃ (L' : Loc) (e' : TT.Env) (s' : Sto), TT.evS c L0.length x e s = .ok (.nx, e') s' ∧ Pst L0 L' H0 H ∧ RelE N X.K L' H σ e' ∧ RelS N X.K T L' H s') : PSs X sts (cS N X.K T Wx fun n => TT.evSs c n (.cons x xs)) :=
  PSsw t fun D σ H ⟨L0, H0, L, e, s, p, re, rs, o⟩ => by
    simp only [TT.evSs] at o
    rcases h L0 H0 L H σ e s p re rs with h | ⟨L', e', s', h, p', re', rs'⟩
    · rw [h] at o; exact False.elim o
    · rw [h] at o; exact ⟨L0, H0, L', e', s', p', re', rs', o⟩
theorem sq_drop {c : TT.Cxt} {sts : List Stmt} {i : Nat} {xs : TT.Ss} (t : PSs X sts (cS N X.K T Wx fun n => TT.evSs c n xs)) : PSs X sts (cS N X.K T Wx fun n => TT.evSs c n (.cons (.gdrop i) xs)) :=
  sq_ghost t fun L0 H0 L H σ e s p re rs => by
    simp only [TT.evS]
    split
    · rename_i l h1
      split
      · rename_i h2
        right
        have hl : l + 1 = L.length := by rw [rs.len]; exact h2.2
        refine ⟨L.dropLast, _, _, rfl, p.less (pre_drop p.pre (by omega)) (fun a => mem_drop), re.unName _ fun i v w ne r => repW_less (fun a => mem_drop) (fun j hj a e => ?_) ne r, rs.drop1⟩
        rw [List.getElem?_dropLast, if_pos]
        · exact e
        · have := (List.getElem?_eq_some_iff.mp e).1
          omega
      · exact .inl rfl
    · exact .inl rfl
theorem freeze_some {s s' : Sto} {l : Nat} {d : TT.D} (h : TT.freeze s l = some (d, s')) : ∃ m, s[l]? = some m ∧ frzM m = some d ∧ m ≠ .dead ∧ s' = if l + 1 = s.length then s.dropLast else s.set l .dead := by
  unfold TT.freeze at h
  split at h <;> first | (rename_i e1; simp only [Option.some.injEq, Prod.mk.injEq] at h; exact ⟨_, e1, by rw [← h.1]; rfl, (fun q => nomatch q), h.2.symm⟩) | cases h
theorem sq_frz {c : TT.Cxt} {sts : List Stmt} {i : Nat} {xs : TT.Ss} (t : PSs X sts (cS N X.K T Wx fun n => TT.evSs c n xs)) : PSs X sts (cS N X.K T Wx fun n => TT.evSs c n (.cons (.gfrz i) xs)) :=
  sq_ghost t fun L0 H0 L H σ e s p re rs => by
    simp only [TT.evS]
    split
    · rename_i l h1
      split
      · rename_i h2
        split
        · rename_i d s' h3
          right
          obtain ⟨m, hm, hd, nd, hs'⟩ := freeze_some h3
          obtain ⟨a, ea, ma, ra⟩ := rs.loc hm nd
          obtain ⟨v, hv, rv⟩ := re.at_ i _ h1
          obtain ⟨a', ea', ev⟩ := rv
          rw [ea] at ea'; cases ea'
          subst ev
          have lt := (List.getElem?_eq_some_iff.mp ea).1
          have fin : ∀ (L' : Loc) (mem : ∀ a, some a ∈ L' → some a ∈ L) (at_ : ∀ j, j ≠ l → ∀ a, L[j]? = some (some a) → L'[j]? = some (some a)) (nin : some a ∉ L') (pre : ∃ X, L' = L0 ++ X) (rs' : RelS N X.K T L' H s'),
              ∃ (L' : Loc) (e' : TT.Env) (s'' : Sto), (TT.R.ok (TT.Fl.nx, (TT.unName l e).set i (some (.d d))) s' : TT.R FE) = .ok (.nx, e') s'' ∧ Pst L0 L' H0 H ∧ RelE N X.K L' H σ e' ∧ RelS N X.K T L' H s'' := by
            intro L' mem at_ nin pre rs'
            have k : Keeps L L' H H := ⟨fun a _ n _ _ q => n (mem a q), fun a u h _ _ => h⟩
            have r1 := re.unName (l := l) L' fun i v w ne r => repW_less mem at_ ne r
            have rd : RepW N X.K L' H (.ref a) (.d d) := (ra.keeps k rfl).frz nin hd
            have r2 := r1.set i rd
            have eσ : σ.set i (some (.ref a)) = σ := by
              apply List.ext_getElem?
              intro j
              rw [List.getElem?_set]
              split
              · rename_i ij
                subst ij
                split
                · exact hv.symm
                · rename_i hl
                  have := (List.getElem?_eq_some_iff.mp hv).1
                  exact absurd this hl
              · rfl
            rw [eσ] at r2
            exact ⟨L', _, _, rfl, p.less pre mem, r2, rs'⟩
          by_cases hl : l + 1 = s.length
          · rw [if_pos hl] at hs'
            have hl' : l + 1 = L.length := by rw [rs.len]; exact hl
            refine fin L.dropLast (fun a => mem_drop) (fun j hj a e => ?_) (nin_drop rs ea hl') (pre_drop p.pre (by omega)) (by rw [hs']; exact rs.drop1)
            rw [List.getElem?_dropLast, if_pos]
            · exact e
            · have := (List.getElem?_eq_some_iff.mp e).1
              omega
          · rw [if_neg hl] at hs'
            refine fin (L.set l none) (fun a => mem_kill) (fun j hj a e => ?_) (nin_kill rs ea) (pre_kill p.pre h2) (by rw [hs']; exact rs.kill1 l)
            rw [List.getElem?_set_ne hj.symm]
            exact e
        · exact .inl rfl
      · exact .inl rfl
    · exact .inl rfl
end
end TS

set_option maxRecDepth 100000
/-! A question put off: a lambda handed to the def that asks; texts that are walked. -/
namespace TS
open PySem PySem.Spec PyProof.Rows L2
/-- what the asking def makes of the question: its value, or the word of the error's class -/
def TTask (N : Nm) (K : PySem.W.Frag) (T : List (Addr × Str)) (ws : List (Nat × Str)) : (XK → Hp → VK → Prop) → Hp → VK → Prop := fun tl H Q =>
  tl (fun cls d H' => ∃ x z, cls = .ref (N.ea K x) ∧ d = none ∧ ws.lookup x = some z ∧ LamX.Tabs T H' ∧ ∀ H2, LamX.ExtN H' H2 → LamX.Tabs T H2 → Q (.str z) H2) H Q
/-- the asking def, as the module has it -/
structure AskOk (N : Nm) (P : Program) (w : World) (K : PySem.W.Frag) (mg : Str → Option Value) (base : Heap) (T : List (Addr × Str)) (ws : List (Nat × Str)) (x : Str) : Prop where
  ex : ∃ (a : Str) (g : Addr) (pg : Arguments) (bg : List Stmt) (sg : Scope) (dV kV doc pm cdv ct oc : Value) (an od : Option Addr) (osl : Array (Option Value)) (Ng : List Str),
    mg x = some (.ref g) ∧ PySem.W.keepIn K (.ref g) = true ∧ K.lookup g = some ⟨oc, od, .func (PySem.W.fnOf x x pg bg sg dV kV doc pm an cdv ct), osl⟩ ∧ PySem.W.codeIn K cdv x = true ∧
    L2.Binds K (PySem.W.fnOf x x pg bg sg dV kV doc pm an cdv ct) [a] [] ∧ FnScope Ng [a] sg ∧ Ng[0]? = some a ∧ Vis sg a ∧ (a == ("__debug__" : Str)) = false ∧ (a == ("__classdict__" : Str)) = false ∧
    ∀ (X : Cx) (q : Str), X.prog = P → X.w = w → X.K = K → X.mg = mg → X.base = base → Room 3 X.A → LamX.GivesTo X Ng x sg g cdv bg a q (TTask N K T ws)
/-- where lambdas are made: the code object of the def, its table -/
structure LamAt (X : Cx) (T : List (Addr × Str)) : Prop where
  ex : ∃ c P, X.env.code = .ref c ∧ LamX.TabB X.base X.mg c P ∧ (P, X.env.qual ++ "<lambda>") ∈ T ∧ ∀ p ∈ T, p.1 = P → p.2 = X.env.qual ++ "<lambda>"
def noArgs : Arguments := ⟨[], [], none, [], [], none, []⟩
theorem pst_ext {L : Loc} {H H1 : Hp} (e : LamX.ExtN H H1) : Pst L L H H1 where
  pre := ⟨[], by simp⟩
  new := fun _ h => .inl h
  fr := fun a o h _ q => e a o h q
  thr := fun a h => by
    cases h1 : H a with
    | none => exact .inl h1
    | some o =>
      by_cases t : ∃ ps, o = .tbl ps
      · obtain ⟨ps, rfl⟩ := t; exact .inr ⟨ps, h1⟩
      · exact (h.not (e a o h1 fun ps z => t ⟨ps, z⟩) fun ps z => t ⟨ps, z⟩).elim
theorem rels_ext {N : Nm} {K : PySem.W.Frag} {T : List (Addr × Str)} {L : Loc} {H H1 : Hp} {s : Sto} (z : RelS N K T L H s) (e : LamX.ExtN H H1) (t : LamX.Tabs T H1) : RelS N K T L H1 s where
  len := z.len
  uniq := z.uniq
  there := fun a h => by
    obtain ⟨o, h1, h2⟩ := z.there a h
    exact ⟨o, e a o h1 (fun ps q => by subst q; exact h2), h2⟩
  at_ := fun l m h d => by
    obtain ⟨a, h1, r⟩ := z.at_ l m h d
    obtain ⟨o, h2, h3⟩ := z.there a (List.mem_of_getElem? h1)
    exact ⟨a, h1, r.keeps (pst_ext e).keeps ((e a o h2 fun ps q => by subst q; exact h3).trans h2.symm)⟩
  tabs := t
section
variable {N : Nm} {X : Cx} {T : List (Addr × Str)} {Wx : WX}
theorem pe_ask {ws : List (Nat × Str)} {x : Str} {k : Nat} {c : TT.Cxt} {y : TT.E} {body : Expr} {scope : Scope} {p lpos pos : Pos} (hw : c.P.words = ws) (A : AskOk N X.prog X.w X.K X.mg X.base T ws x) (hg : Gl X x) (hl : LamAt X T) (hr : Room (k + 3) X.A) (L : LamX.LamS X.env.scope scope) (hdb : (x == ("__debug__" : Str)) = false)
    (hbody : ∀ (A : Around) (outer : List Env) (s : Shared) (H : Hp) (E : XK) (f c' : Addr), Room (k + 1) (A.deeper (LamX.lamEnv X scope s.heap.objs.size f c')) → PE (LamX.lamCx X A outer s H E scope f c') body (cE N X.K T (fun cls d _ H => E cls d H) (TT.evE c.down y))) :
    PE X (.Call (.Name x p) [.Lambda noArgs body scope lpos] [] pos) (cE N X.K T Wx (TT.evE c (.ask y))) := by
  obtain ⟨a, g, pg, bg, sg, dV, kV, doc, pm, cdv, ct, oc, an, od, osl, Ng, h1, h2, h3, h4, h5, h6, h7, h8, h9, h10, hG⟩ := A.ex
  obtain ⟨cc, P, k1, k2, k3, k4⟩ := hl.ex
  refine PEw (LamX.pe_lamcall (t := fun E => cE N X.K T (fun cls d _ H => E cls d H) (TT.evE c.down y)) hg h1 h2 h3 h4 h5 h6 h7 h8 (hG X _ rfl rfl rfl rfl rfl (hr.mono (by omega))) k2 k1 k3 k4 (k := k + 1) hr L rfl (fun _ _ _ _ _ => rfl) hbody hdb h9 h10) ?_
  intro σ H Q ⟨L', e, s, re, rs, o⟩
  refine ⟨rs.tabs, fun H1 eN T1 => ?_⟩
  have ps := pst_ext (L := L') eN
  refine ⟨L', e, s, re.pst ps, rels_ext rs eN T1, ?_⟩
  simp only [TT.evE] at o
  cases h : TT.evE c.down y e s with
  | ok w s' => rw [h] at o; exact o.step ps
  | no => rw [h] at o; exact o
  | err q s' =>
    rw [h] at o
    intro L2 H2 p2 rs2
    simp only [hw] at o
    cases h' : ws.lookup q with
    | none => rw [h'] at o; exact False.elim o
    | some z =>
      rw [h'] at o
      exact ⟨q, z, rfl, rfl, h', rs2.tabs, fun H3 e3 t3 => o L2 H3 ((ps.trans p2).trans (pst_ext e3)) (rels_ext rs2 e3 t3) _ (.str z)⟩
/-! ### a text that is walked -/
theorem walk_x {K : PySem.W.Frag} {L : Loc} {H : Hp} (x : Str) : Walks N K T (Its x) L H (x.cps.toList.map fun c => .str ⟨#[c]⟩, none) := by
  intro L1 H1 s1 p z c
  refine ⟨fun i d e => ?_, by simp [Its]⟩
  rw [List.getElem?_map] at e
  cases e1 : x.cps.toList[i]? with
  | none => rw [e1] at e; cases e
  | some u =>
    rw [e1] at e
    cases e
    refine ⟨?_, fun v H' y => ?_⟩
    · have := (List.getElem?_eq_some_iff.mp e1).1
      show i < x.cps.size
      simpa using this
    · obtain ⟨rfl, u', h1, rfl⟩ := y
      have : x.cps.toList[i]? = some u' := by simpa using h1
      rw [e1] at this; cases this
      exact ⟨Pst.refl _ _, z, .str _⟩
theorem pi_txt {tg a : Expr} {x : TT.E} (c : TT.Cxt) (ha : PE X a (cE N X.K T Wx (TT.evE c x))) : PI X tg a (cI N X.K T Wx (TT.evI c (.txt x))) :=
  PIw (pi_str ha) fun σ H R ⟨L, e, s, re, rs, o⟩ => by
    simp only [TT.evI] at o
    refine cE_then re rs o fun w L1 H1 s1 v p1 re1 rs1 rv o1 => ?_
    split at o1
    · exact ⟨_, RepD.str_inv rv, o1.here rs1 _ (walk_x _)⟩
    · exact False.elim o1
end
end TS

set_option maxRecDepth 100000
set_option maxHeartbeats 2000000
/-! list(reversed(x)), x a list. -/
namespace TS
open PySem PySem.Spec PyProof.Rows L2
section
variable {prog : Program} {w : World} {A : Around} {E : Value → Shared → Prop} {s : Shared}
abbrev nil0 : Obj := { cls := .type "list", data := .seq #[] }
/-- the new list takes all that the iterator yields -/
theorem ext_rev {R : Result → Shared → Prop} {it l S : Addr} {xs : Array Value} {c0 : Nat} (hA : A.handled = none) (hi : s.heap.IsRevIter it l ((xs.size : Int) - 1)) (hl : s.heap.IsList l xs) (ne : l ≠ it) (nS : S ≠ it) (nl : S ≠ l) (hz : xs.size ≤ sizeLine)
    (hS : s.heap.get? S = some { cls := .type "list", data := .seq #[] c0 })
    (q : ∀ (h' : Heap) (tk : Nat) (acc : Array Value) (c' : Nat), (∀ b o, b ≠ S → b ≠ it → s.heap.get? b = some o → h'.get? b = some o) → h'.get? S = some { cls := .type "list", dict := none, data := .seq acc c', slots := #[] } →
      ItemsOf (fun i v => xs[xs.size - 1 - i]? = some v) acc xs.size → R (.ok (.ret .none)) { s with heap := h', toks := tk }) :
    wpAny (model prog w) A.in1 (Builtin.List.listExtendWith (.ref S) (.ref it) .none)
      (fun fin s' => match fin with
        | .done f => R (.ok f) s'
        | .again c' => c'.quiet = true ∧ codeAny (model prog w) A c' R s') (fun e s' => R (.error e) s') s := by
  have ty : s.TypeIs (.ref it) "list_reverseiterator" := hi.typeIs
  have wk := (Walks.listRev (prog := prog) (w := w) (A := A.in1) hA it l ne xs).toS
  have far : S ∉ [it, l] := by simp [nS, nl]
  have same : Builtin.List.listSameRef (.ref S) (.ref it) = false := by simp [Builtin.List.listSameRef, nS]
  unfold Builtin.List.listExtendWith
  apply wpAny_bind
  apply wpAny_typeOf ty
  rw [if_neg (by rw [same]; decide)]
  apply wpAny_bind
  apply wpAny_pyIter_revIter hi
  apply wpAny_bind
  apply wpAny_holding
  unfold Builtin.List.listLengthHint
  apply wpAny_bind
  apply wpAny_specialOf ty RT.nolen_lri
  show wpAny _ A.in1 (specialOf (Value.ref it) (Str.ofString "__length_hint__") >>= _) _ _ _
  apply wpAny_bind
  apply wpAny_specialOf ty RT.hint_lri
  generalize hj : ("list_reverseiterator.__length_hint__" : String) = j
  wp_delta
  rw [show splitId j = some ("list_reverseiterator", "__length_hint__") from by subst hj; decide +kernel]
  subst hj
  apply wpAny_bind
  refine wpAny_isInstance (b := true) ty (by rw [isSubtype_type]; kernel_rfl) ?_
  apply wpAny_pure
  rw [if_neg (by decide)]
  have z0 : ((xs.size : Nat) : Int) - 1 - ((0 : Nat) : Int) = (xs.size : Int) - 1 := by omega
  refine wpAny_pure ⟨plainId_quiet F.plain_extend_loop _, ?_⟩
  refine codeAny_extend_loopS wk hz S far _ xs.size 0 _ _ _ rfl (Nat.zero_le _) ⟨Nat.zero_le _, by rw [z0]; exact hi, hl⟩ hS (ItemsOf.nil _) ?_
  intro s2 acc c2 mv hS2 got
  rw [Moved.eq_with mv]
  refine q s2.heap s2.toks acc c2 (fun b o h1 h2 e => mv.heap b o (fun m => ?_) e) hS2 got
  simp only [List.mem_cons, List.not_mem_nil, or_false] at m
  rcases m with m | m
  · exact h1 m
  · exact h2 m
theorem call_lrev {it l : Addr} {xs : Array Value} {Q : Value → Shared → Prop} (hA : A.handled = none) (hi : s.heap.IsRevIter it l ((xs.size : Int) - 1)) (hl : s.heap.IsList l xs) (ne : l ≠ it) (hz : xs.size ≤ sizeLine)
    (q : ∀ (h' : Heap) (tk : Nat) (acc : Array Value) (c' : Nat), (∀ b o, b ≠ it → s.heap.get? b = some o → h'.get? b = some o) → h'.get? s.heap.objs.size = some { cls := .type "list", dict := none, data := .seq acc c', slots := #[] } →
      ItemsOf (fun i v => xs[xs.size - 1 - i]? = some v) acc xs.size → Q (.ref s.heap.objs.size) { s with heap := h', toks := tk }) : wpAny (model prog w) A (call (.type "list") [.ref it]) Q E s := by
  obtain ⟨oi, gi, _⟩ := id hi
  obtain ⟨ol, gl, _⟩ := id hl
  have ni := Nat.ne_of_gt (Heap.lt_size gi)
  have nl := Nat.ne_of_gt (Heap.lt_size gl)
  refine callType_codes (Q₁ := fun u t => u = .ref s.heap.objs.size ∧ t = { s with heap := s.heap.push nil0 }) F.called_list (F.typeCall_list_1 _) F.entry_list_init (code_list_new _ ⟨rfl, rfl⟩) ?_
  rintro u t ⟨rfl, rfl⟩
  have g0 : (s.heap.push nil0).get? s.heap.objs.size = some nil0 := Heap.get?_push_size _ rfl
  refine ⟨⟨_, g0, rfl⟩, F.args_list_init_2 _ _, ?_⟩
  show wpAny _ A.in1.in1 (do
    let old ← Builtin.List.listItems (.ref s.heap.objs.size)
    Builtin.List.listUpdate (.ref s.heap.objs.size) (fun _ => #[])
    letGo old.toList.reverse
    Builtin.List.listExtendWith (.ref s.heap.objs.size) (.ref it) .none) _ _ _
  apply wpAny_bind
  unfold Builtin.List.listItems
  apply wpAny_bind
  apply wpAny_seqItems g0 rfl
  apply wpAny_pure
  show wpAny _ A.in1.in1 (updateSeq s.heap.objs.size (fun _ => #[]) >>= fun _ => letGo (#[] : Array Value).toList.reverse >>= fun _ => Builtin.List.listExtendWith (.ref s.heap.objs.size) (.ref it) .none) _ _ _
  apply wpAny_bind
  refine wpAny_updateSeq g0 rfl ?_
  have g1 := Heap.get?_update_self (Obj.mapSeq fun _ => (#[] : Array Value)) g0 rfl
  have kp : ∀ b o, b ≠ s.heap.objs.size → s.heap.get? b = some o → ((s.heap.push nil0).update s.heap.objs.size (Obj.mapSeq fun _ => (#[] : Array Value))).get? b = some o := fun b o nb e =>
    (Heap.get?_update_other _ _ nb.symm).trans (Heap.get?_push_of_some _ e)
  apply wpAny_bind
  apply wpAny_letGo
  refine ext_rev (A := A.in1) hA (hi.at fun o e => kp _ _ ni.symm e) (hl.at fun o e => kp _ _ nl.symm e) ne ni nl hz g1 ?_
  intro h' tk acc c' k g2 got
  refine ⟨rfl, q h' tk acc c' (fun b o nb e => ?_) g2 got⟩
  have nb2 : b ≠ s.heap.objs.size := Nat.ne_of_lt (Heap.lt_size e)
  exact k b o nb2 nb (kp b o nb2 e)
end
end TS
namespace TS
open PySem PySem.Spec PyProof.Rows L2 RT
def tLRev (K : PySem.W.Frag) (te : TE) : TE := fun σ H Q => te σ H fun v H1 => ∃ (a : Addr) (xs : List V), v = .ref a ∧ SqL K H1 a xs ∧ ∀ q, H1 q = none → Q (.ref q) (upd H1 q (.lst xs.reverse))
theorem pe_lrev {X : Cx} {e : Expr} {te : TE} {p p2 pos pos2 : Pos} (hc : X.calm = true) (bl : Gl X "list" ∧ X.mg "list" = none) (br : Gl X "reversed" ∧ X.mg "reversed" = none) (he : PE X e te) (hs : noStar e = true) :
    PE X (.Call (.Name "list" p) [.Call (.Name "reversed" p2) [e] [] pos2] [] pos) (tLRev X.K te) := by
  have s1 : starEach [e] X.env = (false, eval e X.env) :: starEach [] X.env := star1 hs
  constructor
  intro pins s σ H Q I h
  refine Call_ (ld_blt I bl.1 bl.2 boot_list (callWith_type1 (args_cons ?_ rfl) rfl rfl))
  refine Call_ (ld_blt I br.1 br.2 boot_reversed (callWith_type1 (args_cons ?_ s1) s1 rfl))
  refine thn (he.run pins s σ H _ I h) ?_
  rintro u t ⟨v, H1, J, rv0, a, xs, rfl, hx, q⟩
  cases rv0
  apply args_nil
  obtain ⟨its, rv, pl, hz⟩ := J.list hx
  have isl := pl.isList
  refine call_reversed_list isl ?_
  apply args_nil
  obtain ⟨ol, gl, _⟩ := id isl
  have ne : a ≠ t.heap.objs.size := Nat.ne_of_lt (Heap.lt_size gl)
  have hn : its.toArray.size ≤ sizeLine := by rw [List.size_toArray, ← rv.length]; exact hz
  refine call_lrev (s := { t with heap := t.heap.push (revObj a ((its.toArray.size : Int) - 1)) }) (J.ok.hd hc) ⟨_, Heap.get?_push_size _ rfl, rfl, rfl⟩ (isl.push _) ne hn ?_
  intro h' tk acc c' k g got
  have sz : (t.heap.push (revObj a ((its.toArray.size : Int) - 1))).objs.size = t.heap.objs.size + 1 := Heap.size_push _ _
  have fr : H1 (t.heap.objs.size + 1) = none := J.hok.fresh (Nat.le_succ _)
  refine ⟨.ref (t.heap.objs.size + 1), upd H1 (t.heap.objs.size + 1) (.lst xs.reverse), ?_, by rw [sz]; rfl, q _ fr⟩
  show L2.Inv X pins σ _ { t with heap := h', toks := tk }
  refine Inv.turnedNew (ch := []) J (fun b o _ e => k b o (Nat.ne_of_lt (Heap.lt_size e)) (Heap.get?_push_of_some _ e)) (fun b hb => by cases hb) (Nat.le_succ _) ?_
  refine ⟨by rw [List.length_reverse]; exact hz, acc.toList, c', vals_rev rv got, ?_⟩
  rw [sz] at g
  simpa using g
section
variable {N : Nm} {X : Cx} {T : List (Addr × Str)} {Wx : WX} {a : Expr} {x : TT.E}
theorem pe_lR {fz : Bool} {p p2 pos pos2 : Pos} (c : TT.Cxt) (hc : X.calm = true) (bl : Gl X "list" ∧ X.mg "list" = none) (br : Gl X "reversed" ∧ X.mg "reversed" = none) (he : PE X a (cE N X.K T Wx (TT.evE c x))) (hs : noStar a = true) :
    PE X (.Call (.Name "list" p) [.Call (.Name "reversed" p2) [a] [] pos2] [] pos) (cE N X.K T Wx (one (TT.evE c x) (fun x s => TT.opSem .listRev [x] s) fz)) :=
  PEw (pe_lrev hc bl br he hs) fun σ H Q ⟨L, e, s, re, rs, o⟩ => cE_then re rs o fun w L1 H1 s1 v p1 re1 rs1 rv o1 => by
    simp only [TT.opSem] at o1
    unfold TT.revS at o1
    split at o1
    · rename_i ds e1
      obtain ⟨b, xs, rfl, hs, r⟩ := lstOf_rep rs1 rv e1
      exact ⟨b, xs, rfl, hs, fun q hq => fin_fl rs1 o1 r.rev hq⟩
    · exact no_out o1
theorem pe_tR {fz : Bool} {p p2 pos pos2 : Pos} (c : TT.Cxt) (hc : X.calm = true) (bl : Gl X "tuple" ∧ X.mg "tuple" = none) (br : Gl X "reversed" ∧ X.mg "reversed" = none) (he : PE X a (cE N X.K T Wx (TT.evE c x))) (hs : noStar a = true) :
    PE X (.Call (.Name "tuple" p) [.Call (.Name "reversed" p2) [a] [] pos2] [] pos) (cE N X.K T Wx (one (TT.evE c x) (fun x s => TT.opSem .tupleRev [x] s) fz)) :=
  PEw (pe_tupRev hc bl.1 bl.2 br.1 br.2 he (star1 hs)) fun σ H Q ⟨L, e, s, re, rs, o⟩ => cE_then re rs o fun w L1 H1 s1 v p1 re1 rs1 rv o1 => by
    simp only [TT.opSem] at o1
    unfold TT.revS at o1
    split at o1
    · rename_i ds e1
      obtain ⟨b, xs, rfl, hs, r⟩ := lstOf_rep rs1 rv e1
      exact ⟨b, xs, rfl, hs, fun q hq => fin_tup rs1 o1 r.rev hq⟩
    · exact no_out o1
end
end TS

set_option maxRecDepth 100000
/-! A fresh thing frozen. -/
namespace TS
open PySem PySem.Spec PyProof.Rows L2
section
variable {N : Nm} {X : Cx} {T : List (Addr × Str)} {Wx : WX} {a : Expr}
theorem pe_fz {x : TT.E} (c : TT.Cxt) (ha : PE X a (cE N X.K T Wx (TT.evE c x))) : PE X a (cE N X.K T Wx (TT.evE c (.fz x))) :=
  PEw ha fun σ H Q ⟨L, e, s, re, rs, o⟩ => ⟨L, e, s, re, rs, by
    simp only [TT.evE] at o
    cases h1 : TT.evE c x e s with
    | no => rw [h1] at o; exact o
    | err _ _ => rw [h1] at o; exact o
    | ok w s1 =>
      rw [h1] at o
      simp only [TT.R.bind_ok] at o
      intro L1 H1 p rs1 v rv
      cases w with
      | d y => exact o L1 H1 p rs1 v rv
      | loc l =>
        simp only at o
        split at o
        · rename_i hl
          split at o
          · rename_i d s' h3
            obtain ⟨m, hm, hd, nd, hs'⟩ := freeze_some h3
            rw [if_pos hl.2] at hs'
            obtain ⟨b, ea, ma, ra⟩ := rs1.loc hm nd
            obtain ⟨b', eb, rfl⟩ := rv
            rw [ea] at eb; cases eb
            have ln : l + 1 = L1.length := by rw [rs1.len]; exact hl.2
            have l0 : L.length < L1.length := by rw [rs.len, rs1.len]; omega
            have nin := nin_drop rs1 ea ln
            have k : Keeps L1 L1.dropLast H1 H1 := ⟨fun a _ n _ _ q => n (mem_drop q), fun a u h _ _ => h⟩
            refine o L1.dropLast H1 (p.less (pre_drop p.pre l0) fun a => mem_drop) (by rw [hs']; exact rs1.drop1) (.ref b) ?_
            exact (ra.keeps k rfl).frz nin hd
          · exact False.elim o
        · exact False.elim o⟩
end
end TS

set_option maxRecDepth 100000
/-! Does a def's text say what the small language's text says: a Bool. -/
namespace TS
open PySem PySem.Spec PyProof.Rows L2
/-- where a text stands -/
structure Sp0 where
  N : List Str
  sc : Scope
  fn : Str → Bool
  lam : Bool
def nm1 (x : Str) : Bool := !(x == ("__debug__" : Str)) && !(x == ("__classdict__" : Str))
def visB (sc : Scope) (x : Str) : Bool := match sc.names.lookup x with
  | some .local => true
  | some .cell => true
  | some .free => true
  | _ => false
def glB (sc : Scope) (x : Str) : Bool := match sc.names.lookup x with
  | some .globalImplicit => true
  | _ => false
def isK : TT.D → Const → Bool
  | .non, .none => true
  | .bl b, .bool c => b == c
  | .int i, .int j => decide (i = j)
  | .str x, .str y => decide (x = y)
  | _, _ => false
def bltB (S : Sig) (st : Sp0) (x : Str) : Bool := glB st.sc x && decide (x ∈ S.blts) && nm1 x
def isB (S : Sig) (st : Sp0) (o : TT.Op) (y : Str) : Bool := match o with
  | .isTup => decide (y = "tuple") && bltB S st y
  | .isCls c => glB st.sc y && nm1 y && decide (S.cls.lookup y = some c)
  | _ => false
def b1B (o : TT.Op) : Option Str := match o with
  | .len => some "len"
  | .lenD => some "len"
  | .abs => some "abs"
  | .int => some "int"
  | .sum => some "sum"
  | .max1 => some "max"
  | .min1 => some "min"
  | .sorted => some "sorted"
  | .all => some "all"
  | .any => some "any"
  | .list => some "list"
  | .tuple => some "tuple"
  | _ => none
def b2B (o : TT.Op) : Option Str := match o with
  | .max2 => some "max"
  | .min2 => some "min"
  | .divmod => some "divmod"
  | _ => none
def binB (o : TT.Op) : Option Operator := match o with
  | .add => some .Add
  | .sub => some .Sub
  | .mul => some .Mult
  | .fdiv => some .FloorDiv
  | .mod => some .Mod
  | .pow => some .Pow
  | _ => none
def cmpB (o : TT.Op) : Option CmpOp := match o with
  | .eq => some .Eq
  | .ne => some .NotEq
  | .lt => some .Lt
  | .le => some .LtE
  | .gt => some .Gt
  | .ge => some .GtE
  | .isN => some .Is
  | .notN => some .IsNot
  | .isB => some .Is
  | .notB => some .IsNot
  | .inS => some .In
  | .ninS => some .NotIn
  | .inD => some .In
  | .ninD => some .NotIn
  | .inT => some .In
  | .ninT => some .NotIn
  | _ => none
def subB (o : TT.Op) : Bool := match o with
  | .ix => true
  | .dget => true
  | _ => false
def bmB (o : TT.Op) : Option Str := match o with
  | .append => some "append"
  | .extend => some "extend"
  | .index => some "index"
  | .count => some "count"
  | _ => none
/-- a name that is stored to -/
def tg1B (st : Sp0) (i : Nat) : Expr → Bool
  | .Name x _ => decide (st.N[i]? = some x) && (match st.sc.names.lookup x with
    | some .local => true
    | some .cell => st.fn x
    | _ => false)
  | _ => false
def tgsB (st : Sp0) : List Nat → List Expr → Bool
  | [], [] => true
  | i :: is, e :: es => tg1B st i e && tgsB st is es
  | _, _ => false
def tgB (st : Sp0) : TT.Tg → Expr → Bool
  | .nm i, e => tg1B st i e
  | .tp is, .Tuple es _ _ => tgsB st is es
  | _, _ => false
def Sp0.blk (st : Sp0) (scope : Scope) : Sp0 := ⟨st.N, relS scope st.sc, fun x => scope.names.lookup x == some .cell, st.lam⟩
def Sp0.inl (st : Sp0) (scope : Scope) : Sp0 := ⟨st.N, scope, fun _ => false, false⟩
/-- the block's own names -/
def ownOf (st : Sp0) (own : List Nat) : List (Str × Nat) := own.map fun i => (st.N.getD i ⟨#[]⟩, i)
def isNoArgs (a : Arguments) : Bool := match a with
  | ⟨[], [], none, [], [], none, []⟩ => true
  | _ => false
def isBack : Expr → Bool
  | .Slice none none (some (.UnaryOp .USub (.Constant (.int 1) _ _) _)) _ => true
  | _ => false
/-- list(reversed(..)), tuple(reversed(..)) -/
def vRev (o : TT.Op) (e : Expr) : Option (Str × Str × Expr) := match o with
  | .listRev => (match e with
    | .Call (.Name x _) [.Call (.Name y _) [a] [] _] [] _ => if x = "list" ∧ y = "reversed" then some (x, y, a) else none
    | _ => none)
  | .tupleRev => (match e with
    | .Call (.Name x _) [.Call (.Name y _) [a] [] _] [] _ => if x = "tuple" ∧ y = "reversed" then some (x, y, a) else none
    | _ => none)
  | _ => none
mutual
def chkE (S : Sig) : TT.E → Sp0 → Expr → Bool
  | .v i, st, e => match e with
    | .Name x _ => decide (st.N[i]? = some x) && visB st.sc x && nm1 x
    | _ => false
  | .k d, _, e => match e with
    | .Constant k _ _ => isK d k
    | _ => false
  | .g _ d, st, e => match e with
    | .Name x _ => glB st.sc x && decide (S.cons.lookup x = some d) && nm1 x
    | _ => false
  | .op _ o es, st, e => match es with
    | .cons a .nil => match vRev o e with
      | some (x, y, a') => bltB S st x && bltB S st y && noStar a' && chkE S a st a'
      | none => match e with
        | .UnaryOp .USub a' _ => decide (o = .neg) && chkE S a st a'
        | .Call (.Name x _) [a'] [] _ => decide (b1B o = some x) && bltB S st x && noStar a' && chkE S a st a'
        | .Call (.Name x _) [a', .Name y _] [] _ => decide (x = "isinstance") && isB S st o y && bltB S st x && noStar a' && chkE S a st a'
        | _ => false
    | .cons a (.cons b .nil) => match e with
      | .BinOp a' q b' _ => decide (binB o = some q) && chkE S a st a' && chkE S b st b'
      | .Compare a' [q] [b'] _ => decide (cmpB o = some q) && noSet b' && chkE S a st a' && chkE S b st b'
      | .Subscript a' b' _ => subB o && noSlice b' && chkE S a st a' && chkE S b st b'
      | .Call (.Name x _) [a', b'] [] _ => decide (b2B o = some x) && bltB S st x && noStar a' && noStar b' && chkE S a st a' && chkE S b st b'
      | _ => false
    | _ => false
  | .bm _ o a es, st, e => match e with
    | .Call (.Attribute a' m apos) es' [] pos => noCall a' && (apos.endLine == pos.line) && chkE S a st a' && (match es, es' with
      | .nil, [] => decide (o = .pop) && decide (m = "pop")
      | .cons b .nil, [b'] => decide (bmB o = some m) && noStar b' && chkE S b st b'
      | _, _ => false)
    | _ => false
  | .chain o o' a b d, st, e => match e with
    | .Compare a' [q, q'] [b', d'] _ => decide (coOf o = some q) && decide (coOf o' = some q') && noSet d' && chkE S a st a' && chkE S b st b' && chkE S d st d'
    | _ => false
  | .bop q es, st, e => match e with
    | .BoolOp op es' _ => decide (op = bopOf q) && chkB S es st es'
    | _ => false
  | .not a, st, e => match e with
    | .UnaryOp .Not a' _ => chkE S a st a'
    | _ => false
  | .ife t a b, st, e => match e with
    | .IfExp t' a' b' _ => chkT S t st t' && chkE S a st a' && chkE S b st b'
    | _ => false
  | .tup es, st, e => match e with
    | .Tuple es' _ _ => decide (es.len ≤ 1000) && chkA S es st es'
    | _ => false
  | .lst _ es, st, e => match e with
    | .List es' _ => decide (es.len ≤ 1000) && chkA S es st es'
    | _ => false
  | .dic _ t, _, e => match e with
    | .Dict [] [] _ => decide (t = 0) || (decide (t = 1) || decide (t = 3))
    | _ => false
  | .slc _ a lo hi, st, e => match e with
    | .Subscript a' (.Slice lo' hi' none _) _ => chkE S a st a' && chkO S lo st lo' && chkO S hi st hi'
    | _ => false
  | .rev _ a, st, e => match e with
    | .Subscript a' sl _ => isBack sl && chkE S a st a'
    | _ => false
  | .attr a f, st, e => match e with
    | .Attribute a' m _ => noCall a' && decide (f < S.N.as.length) && decide (m = S.N.an f) && chkE S a st a'
    | _ => false
  | .call f es, st, e => match e with
    | .Call (.Name x _) es' [] _ => glB st.sc x && nm1 x && decide (S.gl.lookup x = some f) && decide (f < S.P.fns.length) && chkA S es st es'
    | _ => false
  | .meth a m es, st, e => match e with
    | .Call (.Attribute a' x apos) es' [] pos => noCall a' && (apos.endLine == pos.line) && decide (es'.length < 20) && decide (x = S.N.mn m) && chkE S a st a' && chkA S es st es'
    | _ => false
  | .new _ c es, st, e => match e with
    | .Call (.Name x _) es' [] _ => glB st.sc x && nm1 x && decide (S.cls.lookup x = some c) && !es'.isEmpty && chkA S es st es' && (match S.P.init c with
      | some n => decide (n < S.P.fns.length)
      | none => false)
    | _ => false
  | .fz a, st, e => match e with
    | .Call f as kws p => chkE S a st (.Call f as kws p)
    | _ => false
  | .new0 c, st, e => match e with
    | .Call (.Name x _) [] [] _ => glB st.sc x && nm1 x && decide (S.cls.lookup x = some c) && decide (S.P.init c = none)
    | _ => false
  | .lc _ own tg it ifs elt, st, e => match e with
    | .ListComp elt' [⟨tg', iter', ifs', 0⟩] scope _ => noSet iter' && chkI S it st tg' iter' && blkC st.N st.sc scope (ownOf st own) && decide (scope.kind = .function) && (tgs tg).all (fun i => decide (i ∈ own)) && tgB (st.blk scope) tg tg' && chkC S ifs (st.blk scope) ifs' && chkE S elt (st.blk scope) elt'
    | _ => false
  | .ask a, st, e => match e with
    | .Call (.Name x _) [.Lambda args body scope _] [] _ => st.lam && glB st.sc x && nm1 x && decide (x = S.asked) && isNoArgs args && LamX.lamSB st.sc scope && chkE S a (st.inl scope) body
    | _ => false
/-- as a test -/
def chkT (S : Sig) : TT.E → Sp0 → Expr → Bool
  | x, st, e => match x with
    | .not a => match e with
      | .UnaryOp .Not a' _ => chkT S a st a'
      | _ => false
    | .bop q es => match e with
      | .BoolOp op es' _ => decide (op = bopOf q) && chkW S es st es'
      | _ => false
    | .chain o o' a b d => match e with
      | .Compare a' [q, q'] [b', d'] _ => decide (coOf o = some q) && decide (coOf o' = some q') && noSet d' && chkE S a st a' && chkE S b st b' && chkE S d st d'
      | _ => false
    | .op _ o (.cons a (.cons b .nil)) => match e with
      | .Compare a' [q] [b'] _ => decide (cmpB o = some q) && noSet b' && chkE S a st a' && chkE S b st b'
      | _ => false
    | .op fz o (.cons a .nil) => match e with
      | .Call (.Name x _) [a'] [] _ => decide (b1B o = some x) && bltB S st x && noStar a' && chkE S a st a'
      | .Call (.Name x _) [a', .Name y _] [] _ => decide (x = "isinstance") && isB S st o y && bltB S st x && noStar a' && chkE S a st a'
      | _ => false
    | .v i => match e with
      | .Name x _ => decide (st.N[i]? = some x) && visB st.sc x && nm1 x
      | _ => false
    | .call f es => match e with
      | .Call (.Name x _) es' [] _ => glB st.sc x && nm1 x && decide (S.gl.lookup x = some f) && decide (f < S.P.fns.length) && chkA S es st es'
      | _ => false
    | .meth a m es => match e with
      | .Call (.Attribute a' x apos) es' [] pos => noCall a' && (apos.endLine == pos.line) && decide (es'.length < 20) && decide (x = S.N.mn m) && chkE S a st a' && chkA S es st es'
      | _ => false
    | _ => false
/-- and, or, as a test -/
def chkW (S : Sig) : TT.Es → Sp0 → List Expr → Bool
  | .nil, _, _ => false
  | .cons a r, st, es => match es with
    | [a'] => chkT S a st a' && (match r with
      | .nil => true
      | _ => false)
    | a' :: b' :: rest => chkT S a st a' && (match r with
      | .nil => false
      | _ => true) && chkW S r st (b' :: rest)
    | [] => false
def chkB (S : Sig) : TT.Es → Sp0 → List Expr → Bool
  | .nil, _, _ => false
  | .cons a r, st, es => match es with
    | [a'] => chkE S a st a' && (match r with
      | .nil => true
      | _ => false)
    | a' :: b' :: rest => chkE S a st a' && (match r with
      | .nil => false
      | _ => true) && chkB S r st (b' :: rest)
    | [] => false
/-- arguments -/
def chkA (S : Sig) : TT.Es → Sp0 → List Expr → Bool
  | .nil, _, es => es.isEmpty
  | .cons a r, st, es => match es with
    | a' :: rest => noStar a' && chkE S a st a' && chkA S r st rest
    | [] => false
def chkO (S : Sig) : TT.Es → Sp0 → Option Expr → Bool
  | .nil, _, e => e.isNone
  | .cons a _, st, e => match e with
    | some a' => chkE S a st a'
    | none => false
def chkC (S : Sig) : TT.Es → Sp0 → List Expr → Bool
  | .nil, _, es => es.isEmpty
  | .cons a r, st, es => match es with
    | [a'] => chkT S a st a' && (match r with
      | .nil => true
      | _ => false)
    | _ => false
def chkI (S : Sig) : TT.It → Sp0 → Expr → Expr → Bool
  | .seq a, st, _, e => chkE S a st e
  | .txt a, st, _, e => chkE S a st e
  | .rng1 a, st, _, e => match e with
    | .Call (.Name x _) [a'] [] _ => decide (x = "range") && bltB S st x && noStar a' && chkE S a st a'
    | _ => false
  | .rng2 a b, st, _, e => match e with
    | .Call (.Name x _) [a', b'] [] _ => decide (x = "range") && bltB S st x && noStar a' && noStar b' && chkE S a st a' && chkE S b st b'
    | _ => false
  | .enm a, st, tg, e => match e with
    | .Call (.Name x _) [a'] [] _ => decide (x = "enumerate") && bltB S st x && noStar a' && (match tg with
      | .Tuple _ _ _ => true
      | _ => false) && chkE S a st a'
    | _ => false
  | .revs a, st, _, e => match e with
    | .Call (.Name x _) [a'] [] _ => decide (x = "reversed") && bltB S st x && noStar a' && chkE S a st a'
    | _ => false
  | .zip _ _, _, _, _ => false
end
end TS

set_option maxRecDepth 100000
/-! The Bool is right: expressions. -/
namespace TS
open PySem PySem.Spec PyProof.Rows L2
/-- what the module keeps -/
structure BaseF (S : Sig) (K : PySem.W.Frag) (mg : Str → Option Value) : Prop where
  nm : NmOk S.N K
  blt : ∀ x ∈ S.blts, mg x = none ∧ x ≠ "__name__"
  con : ∀ x d, S.cons.lookup x = some d → ∃ (u : Value) (v : L2.V), mg x = some u ∧ RelV v u ∧ ∀ L H, RepD S.N K L H v d
  gl : ∀ x n, S.gl.lookup x = some n → mg x = some (.ref (S.fa K n)) ∧ PySem.W.keepIn K (.ref (S.fa K n)) = true
  cls : ∀ x cl, S.cls.lookup x = some cl → cl < S.N.cs.length ∧ mg x = some (.ref (S.N.ca K cl)) ∧ ∀ n, S.P.init cl = some n → Mk K (S.N.ca K cl) (S.fa K n)
  nw : ∀ x cl, S.cls.lookup x = some cl → S.P.init cl = none → Mk0 K (S.N.ca K cl)
  isi : IsiK S.N K
  eqo : ∀ c, c < S.N.cs.length → OEq K (S.N.ca K c)
  meth : ∀ cl m n, S.P.meth cl m = some n → n < S.P.fns.length ∧ Meth K (S.N.ca K cl) (S.N.mn m) (S.fa K n)
  exc : ∀ i x, S.N.es[i]? = some x → mg x = some (.ref (S.N.ea K i)) ∧ PySem.W.excIn K (S.N.ea K i) He.veBase "ValueError.__new__" = true ∧ PySem.W.keepIn K (.ref (S.N.ea K i)) = true ∧
    PySem.W.subIn K (.ref (S.N.ea K i)) (.type "BaseException") = some true ∧ PySem.W.typeIn K (.ref (S.N.ea K i)) = some (.type "type")
def FnAt (N : Nm) (P : Program) (w : World) (K : PySem.W.Frag) (mg : Str → Option Value) (base : Heap) (T : List (Addr × Str)) (k : Nat) (φ : List W → Sto → TT.R W) (fa : Addr) : Prop :=
  ∃ (fd : FuncData) (ps : List Str), FnOk P w K mg base (L2.CX P w) k fa fd ps (spF N K T φ) ∧ Binds K fd ps []
structure Base (S : Sig) (P : Program) (w : World) (K : PySem.W.Frag) (mg : Str → Option Value) (base : Heap) (T : List (Addr × Str)) (l : Nat) (F : Nat → TT.Fun) : Prop where
  f : BaseF S K mg
  lev : ∀ i, i < l → ∀ n, n < S.P.fns.length → FnAt S.N P w K mg base T (l - i) (F i n) (S.fa K n)
structure Good (S : Sig) (T : List (Addr × Str)) (st : Sp0) (X : Cx) (c : TT.Cxt) (Wx : WX) (l : Nat) : Prop where
  N : X.N = st.N
  nd : X.N.Nodup
  sc : X.env.scope = st.sc
  kind : st.sc.kind = .function
  fn : ∀ x, st.fn x = true → X.fn x = true
  calm : X.calm = true
  room : Room l X.A
  tk : L2.Takes X Wx
  P : c.P = S.P
  b : Base S X.prog X.w X.K X.mg X.base T l c.F
  lv : 2 ≤ l
  lam : st.lam = true → 4 ≤ l ∧ LamAt X T ∧ AskOk S.N X.prog X.w X.K X.mg X.base T S.P.words S.asked
section
variable {S : Sig} {T : List (Addr × Str)} {st : Sp0} {X : Cx} {c : TT.Cxt} {Wx : WX} {l : Nat}
theorem Good.units (g : Good S T st X c Wx l) : X.A.units + 64 < cLine := by
  have := g.room.un
  omega
theorem Good.units1 (g : Good S T st X c Wx l) : X.A.units + 65 < cLine := by
  have := g.room.un
  omega
theorem vis_of {sc : Scope} {x : Str} (h : visB sc x = true) : Vis sc x := by
  unfold visB at h
  split at h
  · rename_i e; exact .inl e
  · rename_i e; exact .inr (.inl e)
  · rename_i e; exact .inr (.inr e)
  · cases h
theorem Good.gl (g : Good S T st X c Wx l) {x : Str} (h : glB st.sc x = true) : Gl X x := by
  unfold glB at h
  split at h
  · rename_i e
    show X.env.scope.names.lookup x = _
    rw [g.sc]; exact e
  · cases h
theorem nm_of {x : Str} (h : nm1 x = true) : (x == ("__debug__" : Str)) = false ∧ (x == ("__classdict__" : Str)) = false := by
  unfold nm1 at h
  rw [Bool.and_eq_true] at h
  exact ⟨by simpa using h.1, by simpa using h.2⟩
theorem Good.blt (g : Good S T st X c Wx l) {x : Str} {v : Value} (h : bltB S st x = true) (e : bootBuiltins x = some v) : Blt X x v := by
  unfold bltB at h
  simp only [Bool.and_eq_true, decide_eq_true_eq] at h
  exact ⟨g.gl h.1.1, (g.b.f.blt x h.1.2).1, e, (g.b.f.blt x h.1.2).2, (nm_of h.2).1⟩
theorem Good.blt2 (g : Good S T st X c Wx l) {x : Str} (h : bltB S st x = true) : Gl X x ∧ X.mg x = none := by
  unfold bltB at h
  simp only [Bool.and_eq_true, decide_eq_true_eq] at h
  exact ⟨g.gl h.1.1, (g.b.f.blt x h.1.2).1⟩
theorem isK_of {d : TT.D} {k : Const} (h : isK d k = true) : IsK d k := by
  unfold isK at h
  split at h
  · exact .non
  · have := eq_of_beq h; subst this; exact .bl _
  · have := of_decide_eq_true h; subst this; exact .int _
  · have := of_decide_eq_true h; subst this; exact .str _
  · cases h
theorem bin_snd {o : TT.Op} {q : Operator} (h : binB o = some q) : Snd2 S.N X T (binaryOp q) (fun x y s => TT.opSem o [x, y] s) := by
  unfold binB at h
  split at h <;> (try cases h)
  · exact snd_add
  · exact snd_sub
  · exact snd_mul
  · exact snd_fdiv
  · exact snd_mod
  · exact snd_pow
theorem cmp_snd {o : TT.Op} {q : CmpOp} (hu : X.A.units + 64 < cLine) (hO : ∀ c, c < S.N.cs.length → OEq X.K (S.N.ca X.K c)) (h : cmpB o = some q) : Snd2 S.N X T (compareOp q) (fun x y s => TT.opSem o [x, y] s) := by
  unfold cmpB at h
  split at h <;> (try cases h)
  · exact snd_eq hu hO
  · exact snd_ne hu
  · exact snd_lt hu
  · exact snd_le
  · exact snd_gt
  · exact snd_ge
  · exact snd_isN
  · exact snd_notN
  · exact snd_isB
  · exact snd_notB
  · exact snd_inS hu
  · exact snd_ninS hu
  · exact snd_inD hu
  · exact snd_ninD hu
  · exact snd_inT
  · exact snd_ninT
theorem Good.call1 {a : Expr} {f : TT.Env → Sto → TT.R W} {fz : Bool} {p pos : Pos} (g : Good S T st X c Wx l) {o : TT.Op} {x : Str} (h : b1B o = some x) (hb : bltB S st x = true) (hs : noStar a = true) (ha : PE X a (cE S.N X.K T Wx f)) :
    PE X (.Call (.Name x p) [a] [] pos) (cE S.N X.K T Wx (one f (fun x s => TT.opSem o [x] s) fz)) := by
  unfold b1B at h
  split at h <;> (try cases h)
  · exact pe_b1 (g.blt hb rfl) snd_len ha hs
  · exact pe_b1 (g.blt hb rfl) snd_lenD ha hs
  · exact pe_b1 (g.blt hb rfl) snd_abs ha hs
  · exact pe_t1 (g.blt hb rfl) snd_int ha hs
  · exact pe_b1 (g.blt hb rfl) (snd_sum g.calm) ha hs
  · exact pe_b1 (g.blt hb rfl) (snd_max1 g.calm) ha hs
  · exact pe_b1 (g.blt hb rfl) (snd_min1 g.calm) ha hs
  · exact pe_b1 (g.blt hb rfl) (snd_sorted g.units) ha hs
  · exact pe_b1 (g.blt hb rfl) (snd_all g.calm) ha hs
  · exact pe_b1 (g.blt hb rfl) (snd_any g.calm) ha hs
  · exact pe_t1 (g.blt hb rfl) snd_list ha hs
  · exact pe_t1 (g.blt hb rfl) snd_tuple ha hs
theorem Good.isC {a : Expr} {f : TT.Env → Sto → TT.R W} {fz : Bool} {y : Str} {p p2 pos : Pos} (g : Good S T st X c Wx l) {o : TT.Op} (h : isB S st o y = true) (hb : bltB S st "isinstance" = true) (hs : noStar a = true) (ha : PE X a (cE S.N X.K T Wx f)) :
    PE X (.Call (.Name "isinstance" p) [a, .Name y p2] [] pos) (cE S.N X.K T Wx (one f (fun x s => TT.opSem o [x] s) fz)) := by
  unfold isB at h
  split at h
  · simp only [Bool.and_eq_true, decide_eq_true_eq] at h
    obtain ⟨rfl, h⟩ := h
    exact pe_isT (g.blt hb rfl) (g.blt h rfl) ha hs
  · simp only [Bool.and_eq_true, decide_eq_true_eq] at h
    obtain ⟨⟨h1, h2⟩, h3⟩ := h
    obtain ⟨k1, k2, _⟩ := g.b.f.cls _ _ h3
    exact pe_isC k1 g.b.f.isi g.b.f.nm.cls (g.blt hb rfl) (g.gl h1) k2 (nm_of h2).1 ha hs
  · cases h
theorem Good.call2 {a b : Expr} {f f' : TT.Env → Sto → TT.R W} {fz : Bool} {p pos : Pos} (g : Good S T st X c Wx l) {o : TT.Op} {x : Str} (h : b2B o = some x) (hb : bltB S st x = true) (hs : noStar a = true) (hs' : noStar b = true) (ha : PE X a (cE S.N X.K T Wx f)) (hb' : PE X b (cE S.N X.K T Wx f')) :
    PE X (.Call (.Name x p) [a, b] [] pos) (cE S.N X.K T Wx (two f f' (fun x y s => TT.opSem o [x, y] s) fz)) := by
  unfold b2B at h
  split at h <;> (try cases h)
  · exact pe_b2 (g.blt hb rfl) (snd_max2 g.calm) ha hb' hs hs'
  · exact pe_b2 (g.blt hb rfl) (snd_min2 g.calm) ha hb' hs hs'
  · exact pe_b2 (g.blt hb rfl) snd_divmod ha hb' hs hs'
theorem Good.tg1 (g : Good S T st X c Wx l) {i : Nat} {e : Expr} (h : tg1B st i e = true) : ∃ x p, e = .Name x p ∧ TgNm X x i := by
  unfold tg1B at h
  split at h
  · rename_i x p
    simp only [Bool.and_eq_true, decide_eq_true_eq] at h
    refine ⟨x, p, rfl, by rw [g.N]; exact h.1, ?_, ?_⟩
    · have h2 := h.2
      split at h2
      · rename_i q; exact .inl (by rw [g.sc]; exact q)
      · rename_i q; exact .inr (by rw [g.sc]; exact q)
      · cases h2
    · have h2 := h.2
      split at h2
      · rename_i q; exact .inr (by rw [g.sc]; exact q)
      · exact .inl (g.fn x h2)
      · cases h2
  · cases h
theorem Good.tgs (g : Good S T st X c Wx l) : ∀ {is : List Nat} {es : List Expr}, tgsB st is es = true → TgNms X es is
  | [], [], _ => .nil
  | i :: is, e :: es, h => by
    simp only [tgsB, Bool.and_eq_true] at h
    obtain ⟨x, p, rfl, t⟩ := g.tg1 h.1
    exact .cons t (g.tgs h.2)
  | [], _ :: _, h => by cases h
  | _ :: _, [], h => by cases h
theorem Good.tg (g : Good S T st X c Wx l) {t : TT.Tg} {e : Expr} (h : tgB st t e = true) : PG X e (gT X.K t) := by
  unfold tgB at h
  split at h
  · obtain ⟨x, p, rfl, t⟩ := g.tg1 h
    exact pg_nm g.nd t
  · exact pg_tp g.nd g.calm (g.tgs h)
  · cases h
/-- in a comprehension's block -/
theorem Good.blk (g : Good S T st X c Wx l) {scope : Scope} (hk : scope.kind = .function) (s : Shared) (H : Hp) (C : Addr) (cl : List (Str × Addr)) (fp : List Addr) : Good S T (st.blk scope) (X.blk s H scope (compEnvC scope cl C X.env) fp) c Wx0 l where
  N := g.N
  nd := g.nd
  sc := by
    show relS scope X.env.scope = _
    rw [g.sc]; rfl
  kind := hk
  fn := fun x h => h
  calm := g.calm
  room := g.room
  tk := fun _ _ x => by
    obtain ⟨_, _, _, _, _, _, _, _, _, _, _, _, _, _, _, _, z⟩ := x
    exact z.elim
  P := g.P
  b := g.b
  lv := g.lv
  lam := fun h => by
    obtain ⟨h1, ⟨cc, P, k1, k2, k3, k4⟩, h3⟩ := g.lam h
    exact ⟨h1, ⟨cc, P, k1, k2, k3, k4⟩, h3⟩
theorem Base.down {P : Program} {w : World} {K : PySem.W.Frag} {mg : Str → Option Value} {base : Heap} {F : Nat → TT.Fun} (b : Base S P w K mg base T (l + 2) F) : Base S P w K mg base T l (fun i => F (i + 2)) where
  f := b.f
  lev := fun i hi n hn => by
    have := b.lev (i + 2) (by omega) n hn
    rwa [show l + 2 - (i + 2) = l - i by omega] at this
/-- in a lambda -/
theorem Good.inl (g : Good S T st X c Wx (l + 2)) (hl : 2 ≤ l) {scope : Scope} (hk : scope.kind = .function) (A : Around) (outer : List Env) (s : Shared) (H : Hp) (E : XK) (f c' : Addr) (hr : Room l (A.deeper (LamX.lamEnv X scope s.heap.objs.size f c'))) :
    Good S T (st.inl scope) (LamX.lamCx X A outer s H E scope f c') c.down (fun cls d _ H => E cls d H) l where
  N := g.N
  nd := g.nd
  sc := rfl
  kind := hk
  fn := fun x h => by cases h
  calm := rfl
  room := hr
  tk := L2.takes_of rfl rfl rfl rfl
  P := g.P
  b := g.b.down
  lv := hl
  lam := fun h => by cases h
theorem Good.at_ (g : Good S T st X c Wx l) (i : Nat) (hi : i < l) {n : Nat} (hn : n < S.P.fns.length) : FnAt S.N X.prog X.w X.K X.mg X.base T (l - i) (c.F i n) (S.fa X.K n) := g.b.lev i hi n hn
end
end TS

set_option maxRecDepth 100000
set_option maxHeartbeats 4000000
/-! The Bool is right: expressions, all of them. -/
namespace TS
open PySem PySem.Spec PyProof.Rows L2
variable {S : Sig} {T : List (Addr × Str)}
theorem isBack_of {e : Expr} (h : isBack e = true) : ∃ k p1 p2 p3, e = backSl k p1 p2 p3 := by
  unfold isBack at h
  split at h
  · exact ⟨_, _, _, _, rfl⟩
  · cases h
theorem noArgs_of {a : Arguments} (h : isNoArgs a = true) : a = noArgs := by
  unfold isNoArgs at h
  split at h
  · rfl
  · cases h
theorem own_map (st : Sp0) (own : List Nat) : (ownOf st own).map (·.2) = own := by
  unfold ownOf
  rw [List.map_map]
  exact List.map_id' own
theorem op1_ev {c : TT.Cxt} {fz : Bool} {o : TT.Op} {a : TT.E} {X : Cx} {e : Expr} {Wx : WX} (h : PE X e (cE S.N X.K T Wx (one (TT.evE c a) (fun x s => TT.opSem o [x] s) fz))) : PE X e (cE S.N X.K T Wx (TT.evE c (.op fz o (.cons a .nil)))) := by
  rw [ev_op1]; exact h
theorem op2_ev {c : TT.Cxt} {fz : Bool} {o : TT.Op} {a b : TT.E} {X : Cx} {e : Expr} {Wx : WX} (h : PE X e (cE S.N X.K T Wx (two (TT.evE c a) (TT.evE c b) (fun x y s => TT.opSem o [x, y] s) fz))) : PE X e (cE S.N X.K T Wx (TT.evE c (.op fz o (.cons a (.cons b .nil))))) := by
  rw [ev_op2]; exact h
theorem sub_snd {X : Cx} {o : TT.Op} {c : TT.Cxt} {fz : Bool} {a b : TT.E} {a' b' : Expr} {p : Pos} {Wx : WX} (hu : X.A.units + 64 < cLine) (h : subB o = true) (hs : noSlice b' = true) (ha : PE X a' (cE S.N X.K T Wx (TT.evE c a))) (hb : PE X b' (cE S.N X.K T Wx (TT.evE c b))) :
    PE X (.Subscript a' b' p) (cE S.N X.K T Wx (TT.evE c (.op fz o (.cons a (.cons b .nil))))) := by
  unfold subB at h
  split at h
  · exact op2_ev (pe_item snd_ix ha hb hs)
  · exact op2_ev (pe_item (snd_dget hu) ha hb hs)
  · cases h
theorem allA {c : TT.Cxt} : ∀ {es : TT.Es} {st : Sp0} {es' : List Expr}, chkA S es st es' = true → es'.all noStar = true
  | .nil, st, es', h => by
    simp only [chkA, List.isEmpty_iff] at h
    subst h; rfl
  | .cons a r, st, es', h => by
    simp only [chkA] at h
    split at h
    · simp only [Bool.and_eq_true] at h
      simp only [List.all_cons, Bool.and_eq_true]
      exact ⟨h.1.1, allA (c := c) h.2⟩
    · cases h
theorem bm_case {X : Cx} {o : TT.Op} {c : TT.Cxt} {fz : Bool} {a b : TT.E} {a' b' : Expr} {m : Str} {apos pos : Pos} {Wx : WX} (hu : X.A.units + 65 < cLine) (h : bmB o = some m) (ha : PE X a' (cE S.N X.K T Wx (TT.evE c a))) (hx : PA X [b'] (cA S.N X.K T Wx (TT.evEs c (.cons b .nil)))) (hb : noCall a' = true) (hl : (apos.endLine == pos.line) = true) (hs : noStar b' = true) :
    PE X (.Call (.Attribute a' m apos) [b'] [] pos) (cE S.N X.K T Wx (TT.evE c (.bm fz o a (.cons b .nil)))) := by
  unfold bmB at h
  split at h <;> (try cases h)
  · exact pe_ap c ha hx hb hl hs
  · exact pe_ex c ha hx hb hl hs
  · exact pe_idx c hu ha hx hb hl hs
  · exact pe_cnt c ha hx hb hl hs
theorem nilA {es : TT.Es} {st : Sp0} (h : chkA S es st [] = true) : es = .nil := by
  cases es with
  | nil => rfl
  | cons a r => simp [chkA] at h
theorem okCall {X : Cx} {c : TT.Cxt} {Wx : WX} {l k n : Nat} {fa : Addr} {fd : FuncData} {ps : List Str} {x : Str} {es : TT.Es} {es' : List Expr} {p pos : Pos} (pa : PA X es' (cA S.N X.K T Wx (TT.evEs c es))) (al : es'.all noStar = true) (nl : es' = [] → es = .nil)
    (F : FnOk X.prog X.w X.K X.mg X.base (L2.CX X.prog X.w) k fa fd ps (spF S.N X.K T (c.F 0 n))) (hr : Room k X.A) (hg : Gl X x) (hm : X.mg x = some (.ref fa)) (hk : PySem.W.keepIn X.K (.ref fa) = true) (hb : Binds X.K fd ps []) (tk : L2.Takes X Wx) (hd : (x == ("__debug__" : Str)) = false) :
    PE X (.Call (.Name x p) es' [] pos) (cE S.N X.K T Wx (TT.evE c (.call n es))) := by
  cases es' with
  | nil =>
    have := nl rfl
    subst this
    exact pe_cl0 c F hr hg hm hk hb tk hd
  | cons a r => exact pe_cl c F hr hg hm hk hb tk pa hd al
theorem okMeth {X : Cx} {c : TT.Cxt} {Wx : WX} {k m : Nat} {x : Str} {a : TT.E} {a' : Expr} {es : TT.Es} {es' : List Expr} {apos pos : Pos} (pa : PA X es' (cA S.N X.K T Wx (TT.evEs c es))) (al : es'.all noStar = true) (nl : es' = [] → es = .nil)
    (ok : NmOk S.N X.K) (hx : x = S.N.mn m) (M : ∀ cl n, c.P.meth cl m = some n → MethAt S.N X T k c cl m n) (hr : Room k X.A) (tk : L2.Takes X Wx) (ha : PE X a' (cE S.N X.K T Wx (TT.evE c a))) (h1 : noCall a' = true) (h2 : (apos.endLine == pos.line) = true) (h3 : es'.length < 20) :
    PE X (.Call (.Attribute a' x apos) es' [] pos) (cE S.N X.K T Wx (TT.evE c (.meth a m es))) := by
  cases es' with
  | nil =>
    have := nl rfl
    subst this
    exact pe_mt0 ok c hx M hr tk ha h1 h2
  | cons b r => exact pe_mt ok c hx M hr tk ha pa h1 al (by simp at h3; omega) h2
theorem rev_case {X : Cx} {c : TT.Cxt} {Wx : WX} {l : Nat} {st : Sp0} {o : TT.Op} {e a' : Expr} {x y : Str} {a : TT.E} {fz : Bool} (g : Good S T st X c Wx l) (h : vRev o e = some (x, y, a')) (h1 : bltB S st x = true) (h2 : bltB S st y = true) (h3 : noStar a' = true) (ha : PE X a' (cE S.N X.K T Wx (TT.evE c a))) :
    PE X e (cE S.N X.K T Wx (TT.evE c (.op fz o (.cons a .nil)))) := by
  unfold vRev at h
  split at h
  · split at h
    · split at h
      · rename_i q
        simp only [Option.some.injEq, Prod.mk.injEq] at h
        obtain ⟨rfl, rfl, rfl⟩ := h
        obtain ⟨rfl, rfl⟩ := q
        exact op1_ev (pe_lR c g.calm (g.blt2 h1) (g.blt2 h2) ha h3)
      · cases h
    · cases h
  · split at h
    · split at h
      · rename_i q
        simp only [Option.some.injEq, Prod.mk.injEq] at h
        obtain ⟨rfl, rfl, rfl⟩ := h
        obtain ⟨rfl, rfl⟩ := q
        exact op1_ev (pe_tR c g.calm (g.blt2 h1) (g.blt2 h2) ha h3)
      · cases h
    · cases h
  · cases h
mutual
theorem sndE : ∀ (x : TT.E) (st : Sp0) (e : Expr), chkE S x st e = true → ∀ {X : Cx} {c : TT.Cxt} {Wx : WX} {l : Nat}, Good S T st X c Wx l → PE X e (cE S.N X.K T Wx (TT.evE c x))
  | .v i, st, e, h, X, c, Wx, l, g => by
    simp only [chkE] at h
    split at h
    · simp only [Bool.and_eq_true, decide_eq_true_eq] at h
      exact pe_v (by rw [g.N]; exact h.1.1) (by rw [g.sc]; exact vis_of h.1.2) (nm_of h.2).1 (nm_of h.2).2 c
    · cases h
  | .k d, st, e, h, X, c, Wx, l, g => by
    simp only [chkE] at h
    split at h
    · exact pe_k (isK_of h) c
    · cases h
  | .g n d, st, e, h, X, c, Wx, l, g => by
    simp only [chkE] at h
    split at h
    · simp only [Bool.and_eq_true, decide_eq_true_eq] at h
      obtain ⟨u, v, h1, h2, h3⟩ := g.b.f.con _ _ h.1.2
      exact pe_g (n := n) (g.gl h.1.1) h1 h2 (nm_of h.2).1 h3 c
    · cases h
  | .op fz o es, st, e, h, X, c, Wx, l, g => by
    unfold chkE at h
    split at h
    · rename_i a
      split at h
      · rename_i e1
        simp only [Bool.and_eq_true] at h
        exact rev_case g e1 h.1.1.1 h.1.1.2 h.1.2 (sndE a st _ h.2 g)
      split at h
      · simp only [Bool.and_eq_true, decide_eq_true_eq] at h
        obtain ⟨rfl, h⟩ := h
        exact op1_ev (pe_neg (sndE a st _ h g))
      · simp only [Bool.and_eq_true, decide_eq_true_eq] at h
        exact op1_ev (g.call1 h.1.1.1 h.1.1.2 h.1.2 (sndE a st _ h.2 g))
      · simp only [Bool.and_eq_true, decide_eq_true_eq] at h
        obtain ⟨⟨⟨⟨rfl, h1⟩, h2⟩, h3⟩, h4⟩ := h
        exact op1_ev (g.isC h1 h2 h3 (sndE a st _ h4 g))
      · cases h
    · rename_i a b
      split at h
      · simp only [Bool.and_eq_true, decide_eq_true_eq] at h
        exact op2_ev (pe_bin (bin_snd h.1.1) (sndE a st _ h.1.2 g) (sndE b st _ h.2 g))
      · simp only [Bool.and_eq_true, decide_eq_true_eq] at h
        exact op2_ev (pe_cp (cmp_snd g.units g.b.f.eqo h.1.1.1) (sndE a st _ h.1.2 g) (sndE b st _ h.2 g) (marks_no h.1.1.2))
      · simp only [Bool.and_eq_true] at h
        exact sub_snd g.units h.1.1.1 h.1.1.2 (sndE a st _ h.1.2 g) (sndE b st _ h.2 g)
      · simp only [Bool.and_eq_true, decide_eq_true_eq] at h
        exact op2_ev (g.call2 h.1.1.1.1.1 h.1.1.1.1.2 h.1.1.1.2 h.1.1.2 (sndE a st _ h.1.2 g) (sndE b st _ h.2 g))
      · cases h
    · cases h
  | .bm fz o a es, st, e, h, X, c, Wx, l, g => by
    unfold chkE at h
    split at h
    · simp only [Bool.and_eq_true] at h
      obtain ⟨⟨⟨h1, h2⟩, h3⟩, h4⟩ := h
      split at h4
      · simp only [Bool.and_eq_true, decide_eq_true_eq] at h4
        obtain ⟨rfl, rfl⟩ := h4
        exact pe_pop c (sndE a st _ h3 g) h1 h2
      · rename_i b b'
        simp only [Bool.and_eq_true, decide_eq_true_eq] at h4
        exact bm_case g.units1 h4.1.1 (sndE a st _ h3 g) (pa_c c (sndE b st _ h4.2 g) (pa_n c) h4.1.2) h1 h2 h4.1.2
      · cases h4
    · cases h
  | .chain o o' a b d, st, e, h, X, c, Wx, l, g => by
    simp only [chkE] at h
    split at h
    · simp only [Bool.and_eq_true, decide_eq_true_eq] at h
      obtain ⟨⟨⟨⟨⟨h1, h2⟩, h3⟩, h4⟩, h5⟩, h6⟩ := h
      exact pe_chn c h1 h2 (sndE a st _ h4 g) (sndE b st _ h5 g) (sndE d st _ h6 g) h3
    · cases h
  | .bop q es, st, e, h, X, c, Wx, l, g => by
    simp only [chkE] at h
    split at h
    · simp only [Bool.and_eq_true, decide_eq_true_eq] at h
      obtain ⟨rfl, h⟩ := h
      have := sndB es st _ h g q (pos := ‹Pos›)
      exact PEw this fun σ H Q q => by simpa only [TT.evE] using q
    · cases h
  | .not a, st, e, h, X, c, Wx, l, g => by
    simp only [chkE] at h
    split at h
    · exact pe_n c (sndE a st _ h g)
    · cases h
  | .ife t a b, st, e, h, X, c, Wx, l, g => by
    simp only [chkE] at h
    split at h
    · simp only [Bool.and_eq_true] at h
      exact pe_if c (sndT t st _ h.1.1 g) (sndE a st _ h.1.2 g) (sndE b st _ h.2 g)
    · cases h
  | .tup es, st, e, h, X, c, Wx, l, g => by
    simp only [chkE] at h
    split at h
    · simp only [Bool.and_eq_true, decide_eq_true_eq] at h
      exact pe_tp c (sndA es st _ h.2 g) h.1
    · cases h
  | .lst fz es, st, e, h, X, c, Wx, l, g => by
    simp only [chkE] at h
    split at h
    · simp only [Bool.and_eq_true, decide_eq_true_eq] at h
      exact pe_ls c (sndA es st _ h.2 g) h.1
    · cases h
  | .dic fz t, st, e, h, X, c, Wx, l, g => by
    simp only [chkE] at h
    split at h
    · simp only [Bool.or_eq_true, decide_eq_true_eq] at h
      exact pe_dc c h
    · cases h
  | .slc fz a lo hi, st, e, h, X, c, Wx, l, g => by
    simp only [chkE] at h
    split at h
    · simp only [Bool.and_eq_true] at h
      exact pe_slc c (sndE a st _ h.1.1 g) (sndO lo st _ h.1.2 g) (sndO hi st _ h.2 g)
    · cases h
  | .rev fz a, st, e, h, X, c, Wx, l, g => by
    simp only [chkE] at h
    split at h
    · simp only [Bool.and_eq_true] at h
      obtain ⟨h1, h2⟩ := h
      obtain ⟨k, p1, p2, p3, rfl⟩ := isBack_of h1
      exact pe_rev c (sndE a st _ h2 g)
    · cases h
  | .attr a f, st, e, h, X, c, Wx, l, g => by
    simp only [chkE] at h
    split at h
    · simp only [Bool.and_eq_true, decide_eq_true_eq] at h
      exact pe_at g.b.f.nm c (sndE a st _ h.2 g) h.1.1.1 h.1.1.2 h.1.2
    · cases h
  | .call f es, st, e, h, X, c, Wx, l, g => by
    simp only [chkE] at h
    split at h
    · simp only [Bool.and_eq_true, decide_eq_true_eq] at h
      obtain ⟨⟨⟨⟨h1, h2⟩, h3⟩, h4⟩, h5⟩ := h
      obtain ⟨fd, ps, F, B⟩ := g.at_ 0 (by have := g.lv; omega) h4
      obtain ⟨k1, k2⟩ := g.b.f.gl _ _ h3
      exact okCall (l := l) (sndA es st _ h5 g) (allA (c := c) h5) (fun e => by subst e; exact nilA h5) F g.room (g.gl h1) k1 k2 B g.tk (nm_of h2).1
    · cases h
  | .meth a m es, st, e, h, X, c, Wx, l, g => by
    simp only [chkE] at h
    split at h
    · simp only [Bool.and_eq_true, decide_eq_true_eq] at h
      obtain ⟨⟨⟨⟨⟨h1, h2⟩, h3⟩, h4⟩, h5⟩, h6⟩ := h
      have M : ∀ cl n, c.P.meth cl m = some n → MethAt S.N X T l c cl m n := fun cl n e => by
        rw [g.P] at e
        obtain ⟨q1, q2⟩ := g.b.f.meth cl m n e
        obtain ⟨fd, ps, F, B⟩ := g.at_ 0 (by have := g.lv; omega) q1
        exact ⟨_, fd, ps, q2, F, B⟩
      exact okMeth (sndA es st _ h6 g) (allA (c := c) h6) (fun e => by subst e; exact nilA h6) g.b.f.nm h4 M g.room g.tk (sndE a st _ h5 g) h1 h2 h3
    · cases h
  | .new fz cl es, st, e, h, X, c, Wx, l, g => by
    simp only [chkE] at h
    split at h
    · simp only [Bool.and_eq_true, decide_eq_true_eq] at h
      obtain ⟨⟨⟨⟨⟨h1, h2⟩, h3⟩, h4⟩, h5⟩, h6⟩ := h
      split at h6
      · rename_i n hi
        have h6 := of_decide_eq_true h6
        obtain ⟨fd, ps, F, B⟩ := g.at_ 1 (by have := g.lv; omega) h6
        obtain ⟨k1, k2, k3⟩ := g.b.f.cls _ _ h3
        have lv := g.lv
        have ps := sndA es st _ h5 g
        have al := allA (c := c) h5
        rename_i es' _ _ _ _
        cases es' with
        | nil => simp at h4
        | cons a r => exact pe_nw (k := l - 1) c k1 (by rw [g.P]; exact hi) (k3 n hi) F (by rw [show l - 1 + 1 = l by omega]; exact g.room) (g.gl h1) k2 B g.tk ps (nm_of h2).1 al
      · cases h6
    · cases h
  | .fz a, st, e, h, X, c, Wx, l, g => by
    unfold chkE at h
    split at h
    · exact pe_fz c (sndE a st _ h g)
    · cases h
  | .new0 cl, st, e, h, X, c, Wx, l, g => by
    simp only [chkE] at h
    split at h
    · simp only [Bool.and_eq_true, decide_eq_true_eq] at h
      obtain ⟨⟨⟨h1, h2⟩, h3⟩, h4⟩ := h
      obtain ⟨k1, k2, k3⟩ := g.b.f.cls _ _ h3
      exact pe_nw0 c k1 (g.b.f.nw _ _ h3 h4) (g.gl h1) k2 (nm_of h2).1
    · cases h
  | .lc fz own tg it ifs elt, st, e, h, X, c, Wx, l, g => by
    simp only [chkE] at h
    split at h
    · simp only [Bool.and_eq_true] at h
      obtain ⟨⟨⟨⟨⟨⟨⟨h1, h2⟩, h3⟩, h4⟩, h5⟩, h6⟩, h7⟩, h8⟩ := h
      rename_i scope _
      have ok : BlkOk X.N X.env.scope scope (ownOf st own) := by
        rw [g.N, g.sc]; exact blkOk_by h3
      have := pe_lcm (fz := fz) (pos := ‹Pos›) g.calm g.nd (sndI it st _ _ h2 g) ok (t := tg) (fun i hi => by
        rw [own_map]
        exact of_decide_eq_true (List.all_eq_true.mp h5 i hi)) h1 (es := ifs) (x := elt) fun s H C cl fp => by
          have g' := g.blk (of_decide_eq_true h4) s H C cl fp
          exact ⟨g'.tg h6, (sndC (Wx := Wx0) ifs _ _ h7 g').run, sndE elt _ _ h8 g'⟩
      rw [own_map] at this
      exact this
    · cases h
  | .ask a, st, e, h, X, c, Wx, l, g => by
    simp only [chkE] at h
    split at h
    · simp only [Bool.and_eq_true, decide_eq_true_eq] at h
      obtain ⟨⟨⟨⟨⟨⟨h1, h2⟩, h3⟩, h4⟩, h5⟩, h6⟩, h7⟩ := h
      obtain ⟨k1, k2, k3⟩ := g.lam h1
      obtain ⟨l', rfl⟩ : ∃ l', l = l' + 2 := ⟨l - 2, by omega⟩
      obtain ⟨j, rfl⟩ : ∃ j, l' = j + 1 := ⟨l' - 1, by omega⟩
      have ea := noArgs_of h5
      subst ea
      subst h4
      have L := LamX.lamS_by h6
      have kd := L.kind
      exact pe_ask (k := j) (by rw [g.P]) k3 (g.gl h2) k2 g.room (by rw [g.sc]; exact L) (nm_of h3).1 fun A outer s H E f c' hr => sndE a _ _ h7 (g.inl (by omega) kd A outer s H E f c' hr)
    · cases h
theorem sndT : ∀ (x : TT.E) (st : Sp0) (e : Expr), chkT S x st e = true → ∀ {X : Cx} {c : TT.Cxt} {Wx : WX} {l : Nat}, Good S T st X c Wx l → PT X e (cT S.N X.K T Wx (asT (TT.evE c x)))
  | x, st, e, h, X, c, Wx, l, g => by
    unfold chkT at h
    split at h
    · rename_i a
      split at h
      · exact pt_n c (sndT a st _ h g)
      · cases h
    · rename_i q es
      split at h
      · simp only [Bool.and_eq_true, decide_eq_true_eq] at h
        obtain ⟨rfl, h⟩ := h
        have := (sndW es st _ h g q (pos := ‹Pos›)).pt
        exact PTw this fun σ H Q q => by simpa only [asT, TT.evE] using q
      · cases h
    · rename_i o o' a b d
      split at h
      · simp only [Bool.and_eq_true, decide_eq_true_eq] at h
        obtain ⟨⟨⟨⟨⟨h1, h2⟩, h3⟩, h4⟩, h5⟩, h6⟩ := h
        exact pt_chn c h1 h2 (sndE a st _ h4 g) (sndE b st _ h5 g) (sndE d st _ h6 g) h3
      · cases h
    · rename_i fz o a b
      split at h
      · simp only [Bool.and_eq_true, decide_eq_true_eq] at h
        rw [ev_op2]
        exact pt_cp (cmp_snd g.units g.b.f.eqo h.1.1.1) (sndE a st _ h.1.2 g) (sndE b st _ h.2 g) (marks_no h.1.1.2)
      · cases h
    · rename_i fz o a
      split at h
      · simp only [Bool.and_eq_true, decide_eq_true_eq] at h
        exact pt_v (op1_ev (g.call1 h.1.1.1 h.1.1.2 h.1.2 (sndE a st _ h.2 g))) rfl
      · simp only [Bool.and_eq_true, decide_eq_true_eq] at h
        obtain ⟨⟨⟨⟨rfl, h1⟩, h2⟩, h3⟩, h4⟩ := h
        exact pt_v (op1_ev (g.isC h1 h2 h3 (sndE a st _ h4 g))) rfl
      · cases h
    · rename_i i
      split at h
      · simp only [Bool.and_eq_true, decide_eq_true_eq] at h
        exact pt_v (pe_v (by rw [g.N]; exact h.1.1) (by rw [g.sc]; exact vis_of h.1.2) (nm_of h.2).1 (nm_of h.2).2 c) rfl
      · cases h
    · rename_i f es
      split at h
      · simp only [Bool.and_eq_true, decide_eq_true_eq] at h
        obtain ⟨⟨⟨⟨h1, h2⟩, h3⟩, h4⟩, h5⟩ := h
        obtain ⟨fd, ps, F, B⟩ := g.at_ 0 (by have := g.lv; omega) h4
        obtain ⟨k1, k2⟩ := g.b.f.gl _ _ h3
        exact pt_v (okCall (l := l) (sndA es st _ h5 g) (allA (c := c) h5) (fun e => by subst e; exact nilA h5) F g.room (g.gl h1) k1 k2 B g.tk (nm_of h2).1) rfl
      · cases h
    · rename_i a m es
      split at h
      · simp only [Bool.and_eq_true, decide_eq_true_eq] at h
        obtain ⟨⟨⟨⟨⟨h1, h2⟩, h3⟩, h4⟩, h5⟩, h6⟩ := h
        have M : ∀ cl n, c.P.meth cl m = some n → MethAt S.N X T l c cl m n := fun cl n e => by
          rw [g.P] at e
          obtain ⟨q1, q2⟩ := g.b.f.meth cl m n e
          obtain ⟨fd, ps, F, B⟩ := g.at_ 0 (by have := g.lv; omega) q1
          exact ⟨_, fd, ps, q2, F, B⟩
        exact pt_v (okMeth (sndA es st _ h6 g) (allA (c := c) h6) (fun e => by subst e; exact nilA h6) g.b.f.nm h4 M g.room g.tk (sndE a st _ h5 g) h1 h2 h3) rfl
      · cases h
    · cases h
theorem sndW : ∀ (x : TT.Es) (st : Sp0) (es : List Expr), chkW S x st es = true → ∀ {X : Cx} {c : TT.Cxt} {Wx : WX} {l : Nat}, Good S T st X c Wx l → ∀ (q : Bool) {pos : Pos}, PW X (.BoolOp (bopOf q) es pos) (cT S.N X.K T Wx (asT (TT.evB c q x)))
  | .nil, st, es, h, X, c, Wx, l, g, q, pos => by
    unfold chkW at h; cases h
  | .cons a r, st, es, h, X, c, Wx, l, g, q, pos => by
    unfold chkW at h
    split at h
    · rw [Bool.and_eq_true] at h
      obtain ⟨h1, h2⟩ := h
      cases r with
      | nil => exact pw_1 q c (sndT a st _ h1 g)
      | cons _ _ => cases h2
    · rw [Bool.and_eq_true, Bool.and_eq_true] at h
      obtain ⟨⟨h1, h2⟩, h3⟩ := h
      cases r with
      | nil => cases h2
      | cons b r => exact pw_2 q c (sndT a st _ h1 g) (sndW (.cons b r) st _ h3 g q)
    · cases h
theorem sndB : ∀ (x : TT.Es) (st : Sp0) (es : List Expr), chkB S x st es = true → ∀ {X : Cx} {c : TT.Cxt} {Wx : WX} {l : Nat}, Good S T st X c Wx l → ∀ (q : Bool) {pos : Pos}, PE X (.BoolOp (bopOf q) es pos) (cE S.N X.K T Wx (TT.evB c q x))
  | .nil, st, es, h, X, c, Wx, l, g, q, pos => by
    unfold chkB at h; cases h
  | .cons a r, st, es, h, X, c, Wx, l, g, q, pos => by
    unfold chkB at h
    split at h
    · rw [Bool.and_eq_true] at h
      obtain ⟨h1, h2⟩ := h
      cases r with
      | nil => exact pe_bop1 q c (sndE a st _ h1 g)
      | cons _ _ => cases h2
    · rw [Bool.and_eq_true, Bool.and_eq_true] at h
      obtain ⟨⟨h1, h2⟩, h3⟩ := h
      cases r with
      | nil => cases h2
      | cons b r => exact pe_bop2 q c (sndE a st _ h1 g) (sndB (.cons b r) st _ h3 g q)
    · cases h
theorem sndA : ∀ (x : TT.Es) (st : Sp0) (es : List Expr), chkA S x st es = true → ∀ {X : Cx} {c : TT.Cxt} {Wx : WX} {l : Nat}, Good S T st X c Wx l → PA X es (cA S.N X.K T Wx (TT.evEs c x))
  | .nil, st, es, h, X, c, Wx, l, g => by
    unfold chkA at h
    rw [List.isEmpty_iff] at h
    subst h
    exact pa_n c
  | .cons a r, st, es, h, X, c, Wx, l, g => by
    unfold chkA at h
    split at h
    · rw [Bool.and_eq_true, Bool.and_eq_true] at h
      exact pa_c c (sndE a st _ h.1.2 g) (sndA r st _ h.2 g) h.1.1
    · cases h
theorem sndO : ∀ (x : TT.Es) (st : Sp0) (e : Option Expr), chkO S x st e = true → ∀ {X : Cx} {c : TT.Cxt} {Wx : WX} {l : Nat}, Good S T st X c Wx l → PO X e (cO S.N X.K T Wx (TT.evO c x))
  | .nil, st, e, h, X, c, Wx, l, g => by
    unfold chkO at h
    cases e with
    | none => exact po_n c
    | some _ => cases h
  | .cons a r, st, e, h, X, c, Wx, l, g => by
    unfold chkO at h
    split at h
    · exact po_s c (sndE a st _ h g)
    · cases h
theorem sndC : ∀ (x : TT.Es) (st : Sp0) (es : List Expr), chkC S x st es = true → ∀ {X : Cx} {c : TT.Cxt} {Wx : WX} {l : Nat}, Good S T st X c Wx0 l → Tests S.N X T c es x
  | .nil, st, es, h, X, c, Wx, l, g => by
    unfold chkC at h
    rw [List.isEmpty_iff] at h
    subst h
    exact .nil
  | .cons a r, st, es, h, X, c, Wx, l, g => by
    unfold chkC at h
    split at h
    · rw [Bool.and_eq_true] at h
      obtain ⟨h1, h2⟩ := h
      cases r with
      | nil => exact .one (sndT a st _ h1 g)
      | cons _ _ => cases h2
    · cases h
theorem sndI : ∀ (x : TT.It) (st : Sp0) (tg e : Expr), chkI S x st tg e = true → ∀ {X : Cx} {c : TT.Cxt} {Wx : WX} {l : Nat}, Good S T st X c Wx l → PI X tg e (cI S.N X.K T Wx (TT.evI c x))
  | .seq a, st, tg, e, h, X, c, Wx, l, g => pi_s c (sndE a st e (by unfold chkI at h; exact h) g)
  | .txt a, st, tg, e, h, X, c, Wx, l, g => pi_txt c (sndE a st e (by unfold chkI at h; exact h) g)
  | .rng1 a, st, tg, e, h, X, c, Wx, l, g => by
    unfold chkI at h
    split at h
    · simp only [Bool.and_eq_true, decide_eq_true_eq] at h
      obtain ⟨⟨⟨rfl, h1⟩, h2⟩, h3⟩ := h
      exact pi_r1 (g.blt2 h1) c (sndE a st _ h3 g) h2
    · cases h
  | .rng2 a b, st, tg, e, h, X, c, Wx, l, g => by
    unfold chkI at h
    split at h
    · simp only [Bool.and_eq_true, decide_eq_true_eq] at h
      obtain ⟨⟨⟨⟨⟨rfl, h1⟩, h2⟩, h3⟩, h4⟩, h5⟩ := h
      exact pi_r2 (g.blt2 h1) c (sndE a st _ h4 g) (sndE b st _ h5 g) h2 h3
    · cases h
  | .enm a, st, tg, e, h, X, c, Wx, l, g => by
    unfold chkI at h
    split at h
    · simp only [Bool.and_eq_true, decide_eq_true_eq] at h
      obtain ⟨⟨⟨⟨rfl, h1⟩, h2⟩, h3⟩, h4⟩ := h
      split at h3
      · exact pi_en (g.blt2 h1) c (sndE a st _ h4 g) h2
      · cases h3
    · cases h
  | .revs a, st, tg, e, h, X, c, Wx, l, g => by
    unfold chkI at h
    split at h
    · simp only [Bool.and_eq_true, decide_eq_true_eq] at h
      obtain ⟨⟨⟨rfl, h1⟩, h2⟩, h3⟩ := h
      exact pi_rv (g.blt2 h1) c (sndE a st _ h3 g) h2
    · cases h
  | .zip _ _, st, tg, e, h, X, c, Wx, l, g => by
    unfold chkI at h; cases h
end
end TS

set_option maxRecDepth 100000
/-! The Bool for statements. -/
namespace TS
open PySem PySem.Spec PyProof.Rows L2
def noDC : Expr → Bool
  | .SetComp _ _ _ _ => false
  | .DictComp _ _ _ _ _ => false
  | _ => true
/-- is the value used where the comprehension is -/
def swapV (sc : Scope) (v tg : Expr) : Bool := match v with
  | .ListComp _ _ scope _ => (match tg with
    | .Name t pos => (sc.names.lookup t == some .local) && pos.line == v.pos.line && !(scope.names.any fun (n, k) => n == t && (k == .local || k == .cell))
    | _ => false)
  | _ => false
theorem swapV_ok {env : Env} {v tg : Expr} {l : Nat} (hk : env.scope.kind = .function) (hd : noDC v = true) : swapsWith v (some tg) l env = pure (swapV env.scope v tg) := by
  have hb : env.blockKind = .function := by unfold Env.blockKind; rw [hk]; rfl
  cases v <;> first | (cases hd; done) | (unfold swapsWith swapV; rfl) | skip
  rename_i elt gs scope pos
  cases tg <;> first | rfl | skip
  rename_i t p
  unfold swapsWith swapV
  simp only [hb]
  have : env.kindOf t = env.scope.names.lookup t := rfl
  rw [this]
  rfl
theorem swapV_sub {sc : Scope} {v o i : Expr} {p : Pos} : swapV sc v (.Subscript o i p) = false := by
  unfold swapV
  cases v <;> rfl
theorem swapV_att {sc : Scope} {v o : Expr} {m : Str} {p : Pos} : swapV sc v (.Attribute o m p) = false := by
  unfold swapV
  cases v <;> rfl
/-- two or three plain names, stored without a tuple -/
def lclB (sc : Scope) (line : Nat) : Expr → Bool
  | .Name x p => (sc.names.lookup x == some .local) && p.line == line
  | _ => false
def parB (st : Sp0) : List Nat → List Expr → List Expr → Bool
  | [i, j], [.Name x px, .Name y py], [a, b] => decide (i ≠ j) && decide (st.N[i]? = some x) && decide (st.N[j]? = some y) && lclB st.sc px.line (.Name x px) && lclB st.sc px.line (.Name y py) && !(x == y) && noStar a && noStar b && !(foldedForSure 8 a && foldedForSure 8 b) && !(constantsAlone 8 a && constantsAlone 8 b)
  | [i, j, l], [.Name x px, .Name y py, .Name z pz], [a, b, d] => decide (i ≠ j) && decide (i ≠ l) && decide (j ≠ l) && decide (st.N[i]? = some x) && decide (st.N[j]? = some y) && decide (st.N[l]? = some z) && lclB st.sc px.line (.Name x px) && lclB st.sc px.line (.Name y py) && lclB st.sc px.line (.Name z pz) &&
      !(x == y) && !(x == z) && !(y == z) && noStar a && noStar b && noStar d && !(foldedForSure 8 a && foldedForSure 8 b && foldedForSure 8 d) && !(constantsAlone 8 a && constantsAlone 8 b && constantsAlone 8 d)
  | _, _, _ => false
/-- a tuple that is built, then taken apart -/
def foldB : Expr → Bool
  | .Tuple vs _ _ => (vs.all fun
      | .Starred .. => false
      | _ => true) && vs.all (foldedForSure 8)
  | _ => true
mutual
def chkS (S : Sig) : TT.S → Sp0 → Stmt → Bool
  | .asg t x, st, s => match s with
    | .Assign [tg] v _ => noDC v && tgB st t tg && chkE S x st v && (match t with
      | .nm _ => true
      | .tp _ => noTup v || cellT st.sc tg)
    | _ => false
  | .par is es, st, s => match s with
    | .Assign [.Tuple ts _ _] (.Tuple vs _ _) _ => parB st is ts vs && chkA S es st vs
    | _ => false
  | .sub o i v, st, s => match s with
    | .Assign [.Subscript o' i' _] v' _ => noSlice i' && noComp v' && noTup v' && chkE S o st o' && chkE S i st i' && chkE S v st v'
    | _ => false
  | .dput o i v, st, s => match s with
    | .Assign [.Subscript o' i' _] v' _ => noDC v' && chkE S o st o' && chkE S i st i' && chkE S v st v'
    | _ => false
  | .fld o f v, st, s => match s with
    | .Assign [.Attribute o' m _] v' _ => noDC v' && decide (f < S.N.as.length) && decide (m = S.N.an f) && chkE S o st o' && chkE S v st v'
    | _ => false
  | .ex a, st, s => match s with
    | .Expr v _ => noComp v && chkE S a st v
    | _ => false
  | .ret a, st, s => match s with
    | .Return (some v) _ => chkE S a st v
    | _ => false
  | .retN, _, s => match s with
    | .Return none _ => true
    | _ => false
  | .ite t a b, st, s => match s with
    | .If t' a' b' _ => chkT S t st t' && chkSs S a st a' && chkSs S b st b'
    | _ => false
  | .for t it _ body, st, s => match s with
    | .For tg iter body' [] _ => noSet iter && tgB st t tg && chkI S it st tg iter && chkSs S body st body'
    | _ => false
  | .whl _ t _ body, st, s => match s with
    | .While t' body' [] _ => chkT S t st t' && chkSs S body st body'
    | _ => false
  | .raise k, st, s => match s with
    | .Raise (some (.Call (.Name x _) [.Constant (.str _) _ _] [] _)) none _ => decide (S.N.es[k]? = some x) && glB st.sc x && nm1 x
    | _ => false
  | .try1 _ _ _, _, _ => false
  | .pass, _, s => match s with
    | .Pass _ => true
    | _ => false
  | .brk, _, s => match s with
    | .Break _ => true
    | _ => false
  | .cnt, _, s => match s with
    | .Continue _ => true
    | _ => false
  | .gfrz _, _, _ => false
  | .gdrop _, _, _ => false
def chkSs (S : Sig) : TT.Ss → Sp0 → List Stmt → Bool
  | .nil, _, ss => ss.isEmpty
  | .cons a r, st, ss => match a with
    | .gfrz _ => chkSs S r st ss
    | .gdrop _ => chkSs S r st ss
    | a => match ss with
      | s :: rest => chkS S a st s && chkSs S r st rest
      | [] => false
end
structure GoodS (S : Sig) (T : List (Addr × Str)) (st : Sp0) (X : Cx) (c : TT.Cxt) (Wx : WX) (l : Nat) : Prop where
  g : Good S T st X c Wx l
  po : PassesOwn (model X.prog X.w) X.A X.env X.xe
theorem stores_par {env : Env} {st : Sp0} {is : List Nat} {ts vs : List Expr} {k1 k2 : Nat} {p1 p2 : Pos} (hk : env.scope.kind = .function) (hs : env.scope = st.sc) (h : parB st is ts vs = true) :
    (∃ i j x y px py a b, is = [i, j] ∧ ts = [.Name x px, .Name y py] ∧ vs = [a, b] ∧ i ≠ j ∧ st.N[i]? = some x ∧ st.N[j]? = some y ∧ env.scope.names.lookup x = some .local ∧ env.scope.names.lookup y = some .local ∧ swappedStores [.Tuple ts k1 p1] (.Tuple vs k2 p2) env = pure (some [x, y])) ∨
    (∃ i j l x y z px py pz a b d, is = [i, j, l] ∧ ts = [.Name x px, .Name y py, .Name z pz] ∧ vs = [a, b, d] ∧ i ≠ j ∧ i ≠ l ∧ j ≠ l ∧ st.N[i]? = some x ∧ st.N[j]? = some y ∧ st.N[l]? = some z ∧ env.scope.names.lookup x = some .local ∧ env.scope.names.lookup y = some .local ∧ env.scope.names.lookup z = some .local ∧ swappedStores [.Tuple ts k1 p1] (.Tuple vs k2 p2) env = pure (some [x, y, z])) := by
  have hb : env.blockKind = .function := by unfold Env.blockKind; rw [hk]; rfl
  have hko : ∀ t, env.kindOf t = env.scope.names.lookup t := fun _ => rfl
  unfold parB at h
  split at h
  · rename_i i j x px y py a b
    simp only [Bool.and_eq_true, decide_eq_true_eq, lclB, beq_iff_eq, Bool.not_eq_true'] at h
    obtain ⟨⟨⟨⟨⟨⟨⟨⟨⟨h1, h2⟩, h3⟩, h4⟩, h5⟩, h6⟩, h7⟩, h8⟩, h9⟩, h10⟩ := h
    left
    refine ⟨i, j, x, y, px, py, a, b, rfl, rfl, rfl, h1, h2, h3, by rw [hs]; exact h4.1, by rw [hs]; exact h5.1, ?_⟩
    unfold swappedStores
    simp only [List.length_cons, List.length_nil, hb, List.any_cons, List.any_nil, List.filterMap_cons, List.filterMap_nil, hko, hs, h4.1, h5.1, Expr.pos, List.head?_cons, Option.map_some, Option.getD_some, h5.2, List.all_cons, List.all_nil, Bool.and_true, h9, h10]
    have h6' : (y == x) = false := beq_eq_false_iff_ne.mpr fun e => (beq_eq_false_iff_ne.mp h6) e.symm
    simp [List.eraseDups_cons, h6, h6']
    intro h
    rcases h with h | h
    · revert h h7; cases a <;> simp [noStar]
    · revert h h8; cases b <;> simp [noStar]
  · rename_i i j l x px y py z pz a b d
    simp only [Bool.and_eq_true, decide_eq_true_eq, lclB, beq_iff_eq, Bool.not_eq_true'] at h
    obtain ⟨⟨⟨⟨⟨⟨⟨⟨⟨⟨⟨⟨⟨⟨⟨⟨h1, h2⟩, h3⟩, h4⟩, h5⟩, h6⟩, h7⟩, h8⟩, h9⟩, k1⟩, k2⟩, k3⟩, k4⟩, k5⟩, k6⟩, k7⟩, k8⟩ := h
    right
    refine ⟨i, j, l, x, y, z, px, py, pz, a, b, d, rfl, rfl, rfl, h1, h2, h3, h4, h5, h6, by rw [hs]; exact h7.1, by rw [hs]; exact h8.1, by rw [hs]; exact h9.1, ?_⟩
    unfold swappedStores
    simp only [List.length_cons, List.length_nil, hb, List.any_cons, List.any_nil, List.filterMap_cons, List.filterMap_nil, hko, hs, h7.1, h8.1, h9.1, Expr.pos, List.head?_cons, Option.map_some, Option.getD_some, h8.2, h9.2, List.all_cons, List.all_nil, Bool.and_true, k7, k8, ← Bool.and_assoc]
    have e1 : (y == x) = false := beq_eq_false_iff_ne.mpr fun e => (beq_eq_false_iff_ne.mp k1) e.symm
    have e2 : (z == x) = false := beq_eq_false_iff_ne.mpr fun e => (beq_eq_false_iff_ne.mp k2) e.symm
    have e3 : (z == y) = false := beq_eq_false_iff_ne.mpr fun e => (beq_eq_false_iff_ne.mp k3) e.symm
    simp [List.eraseDups_cons, e1, e2, e3]
    intro h
    rcases h with h | h | h
    · revert h k4; cases a <;> simp [noStar]
    · revert h k5; cases b <;> simp [noStar]
    · revert h k6; cases d <;> simp [noStar]
  · cases h
theorem assign_sub {o i : Expr} {p : Pos} {env : Env} (h : noSlice i = true) (u : Value) : assign (.Subscript o i p) env u = (do
      let ov ← holding [u] (eval o env)
      let iv ← holding [u, ov] (eval i env)
      standAt p
      holding [u, ov, iv] (setItem ov iv u)
      release [u, ov, iv] []) := by
  cases i <;> first | rfl | cases h
section
variable {S : Sig} {T : List (Addr × Str)}
theorem tgB_tp {st : Sp0} {is : List Nat} {e : Expr} (h : tgB st (.tp is) e = true) : ∃ es k p, e = .Tuple es k p ∧ tgsB st is es = true := by
  cases e <;> first | (simp [tgB] at h; done) | exact ⟨_, _, _, rfl, by simpa [tgB] using h⟩
theorem lc_parts {x : TT.E} {st : Sp0} {elt' : Expr} {gs : List Comprehension} {scope : Scope} {p : Pos} (h : chkE S x st (.ListComp elt' gs scope p) = true) : ∃ fz own tg it ifs elt tg' iter' ifs', x = .lc fz own tg it ifs elt ∧ gs = [⟨tg', iter', ifs', 0⟩] ∧
    noSet iter' = true ∧ chkI S it st tg' iter' = true ∧ blkC st.N st.sc scope (ownOf st own) = true ∧ scope.kind = .function ∧ ((tgs tg).all (fun i => decide (i ∈ own))) = true ∧ tgB (st.blk scope) tg tg' = true ∧ chkC S ifs (st.blk scope) ifs' = true ∧ chkE S elt (st.blk scope) elt' = true := by
  have hv : ∀ o, vRev o (.ListComp elt' gs scope p) = none := fun o => by cases o <;> rfl
  cases x with
  | op fz o es =>
    unfold chkE at h
    cases es with
    | nil => cases h
    | cons a r =>
      cases r with
      | nil =>
        simp only [hv] at h
        cases h
      | cons b r2 => cases r2 <;> cases h
  | lc fz own tg it ifs elt =>
    unfold chkE at h
    split at h
    · rename_i elt'' tg' iter' ifs' scope' pos' e
      cases e
      simp only [Bool.and_eq_true, decide_eq_true_eq] at h
      obtain ⟨⟨⟨⟨⟨⟨⟨h1, h2⟩, h3⟩, h4⟩, h5⟩, h6⟩, h7⟩, h8⟩ := h
      exact ⟨_, _, _, _, _, _, _, _, _, rfl, rfl, h1, h2, h3, h4, h5, h6, h7, h8⟩
    · cases h
  | _ => unfold chkE at h; first | (cases h; done) | (split at h <;> cases h)
theorem asg_case {t : TT.Tg} {x : TT.E} {st : Sp0} {tg v : Expr} {pos : Pos} {X : Cx} {c : TT.Cxt} {Wx : WX} {l : Nat} (g : Good S T st X c Wx l) (h1 : noDC v = true) (h2 : tgB st t tg = true) (h3 : chkE S x st v = true) (h4 : ∀ is, t = .tp is → (noTup v || cellT st.sc tg) = true) :
    PS X (.Assign [tg] v pos) (cS S.N X.K T Wx fun n => TT.evS c n (.asg t x)) := by
  have hk : X.env.scope.kind = .function := by rw [g.sc]; exact g.kind
  have he := sndE x st v h3 g
  cases t with
  | tp is =>
    obtain ⟨es, k, p, rfl, h2⟩ := tgB_tp h2
    refine ss_asgT g.nd g.calm he (g.tgs h2) ?_ (by
      rcases Bool.or_eq_true_iff.mp (h4 is rfl) with q | q
      · exact stores_no q
      · exact stores_cell (by rw [g.sc]; exact q))
    rw [swapV_ok hk h1]
    unfold swapV
    cases v <;> rfl
  | nm i =>
    unfold tgB at h2
    obtain ⟨y, p, rfl, ht⟩ := g.tg1 h2
    cases hs : swapV X.env.scope v (.Name y p) with
    | false => exact ss_asgN g.nd he ht (by rw [swapV_ok hk h1, hs])
    | true =>
      have hs' := swapV_ok (env := X.env) (tg := .Name y p) (l := pos.line) hk h1
      rw [hs] at hs'
      unfold swapV at hs
      cases v <;> first | (cases hs; done) | skip
      rename_i elt gs scope lpos
      simp only [Bool.and_eq_true, beq_iff_eq] at hs
      obtain ⟨fz, own, tg', it, ifs, elt', tg'', iter, ifs', rfl, rfl, k1, k2, k3, k4, k5, k6, k7, k8⟩ := lc_parts h3
      have ok : BlkOk X.N X.env.scope scope (ownOf st own) := by
        rw [g.N, g.sc]; exact blkOk_by k3
      have := ss_asgLc (fz := fz) (pos := pos) (py := p) g.calm g.nd ht hs.1.1 hs' (sndI it st _ _ k2 g) ok (t := tg') (fun i hi => by
        rw [own_map]
        exact of_decide_eq_true (List.all_eq_true.mp k5 i hi)) k1 (es := ifs) (x := elt') fun s H C cl fp => by
          have g' := g.blk k4 s H C cl fp
          exact ⟨g'.tg k6, (sndC (Wx := Wx0) ifs _ _ k7 g').run, sndE elt' _ _ k8 g'⟩
      rw [own_map] at this
      exact this
theorem raise_case {k : Nat} {x m : Str} {j : Nat} {p p2 p3 pos : Pos} {st : Sp0} {X : Cx} {c : TT.Cxt} {Wx : WX} {l : Nat} (g : Good S T st X c Wx l) (h1 : S.N.es[k]? = some x) (h2 : glB st.sc x = true) (h3 : nm1 x = true) :
    PS X (.Raise (some (.Call (.Name x p) [.Constant (.str m) j p2] [] p3)) none pos) (cS S.N X.K T Wx fun n => TT.evS c n (.raise k)) := by
  obtain ⟨k1, k2, k3, k4, k5⟩ := g.b.f.exc k x h1
  exact ss_raise g.calm g.tk PySem.F.excBase_ValueError k2 k1 k3 (raises_own k4 k5) (g.gl h2) (nm_of h3).1
mutual
theorem sndS : ∀ (x : TT.S) (st : Sp0) (s : Stmt), chkS S x st s = true → ∀ {X : Cx} {c : TT.Cxt} {Wx : WX} {l : Nat}, GoodS S T st X c Wx l → PS X s (cS S.N X.K T Wx fun n => TT.evS c n x)
  | .asg t x, st, s, h, X, c, Wx, l, g => by
    unfold chkS at h
    split at h
    · simp only [Bool.and_eq_true] at h
      refine asg_case g.g h.1.1.1 h.1.1.2 h.1.2 fun is e => ?_
      subst e
      exact h.2
    · cases h
  | .par is es, st, s, h, X, c, Wx, l, g => by
    unfold chkS at h
    split at h
    · rename_i ts k1 e1 vs k2 e2 e3
      simp only [Bool.and_eq_true] at h
      obtain ⟨h1, h2⟩ := h
      have hk : X.env.scope.kind = .function := by rw [g.g.sc]; exact g.g.kind
      have pa := sndA es st _ h2 g.g
      rcases stores_par (k1 := k1) (p1 := e1) (k2 := k2) (p2 := e2) hk g.g.sc h1 with ⟨i, j, x, y, px, py, a, b, rfl, rfl, rfl, q1, q2, q3, q4, q5, q6⟩ | ⟨i, j, l, x, y, z, px, py, pz, a, b, d, rfl, rfl, rfl, q1, q2, q3, q4, q5, q6, q7, q8, q9, q10⟩
      · exact ss_par2 g.g.calm g.g.nd (by rw [g.g.N]; exact q2) (by rw [g.g.N]; exact q3) q1 q4 q5 pa q6
      · exact ss_par3 g.g.calm g.g.nd (by rw [g.g.N]; exact q4) (by rw [g.g.N]; exact q5) (by rw [g.g.N]; exact q6) q1 q2 q3 q7 q8 q9 pa q10
    · cases h
  | .sub o i v, st, s, h, X, c, Wx, l, g => by
    unfold chkS at h
    split at h
    · simp only [Bool.and_eq_true] at h
      obtain ⟨⟨⟨⟨⟨h1, h2⟩, h3⟩, h4⟩, h5⟩, h6⟩ := h
      exact ss_sub (sndE o st _ h4 g.g) (sndE i st _ h5 g.g) (sndE v st _ h6 g.g) h1 h2 h3 (assign_sub h1)
    · cases h
  | .dput o i v, st, s, h, X, c, Wx, l, g => by
    unfold chkS at h
    split at h
    · simp only [Bool.and_eq_true] at h
      obtain ⟨⟨⟨h1, h2⟩, h3⟩, h4⟩ := h
      have hk : X.env.scope.kind = .function := by rw [g.g.sc]; exact g.g.kind
      refine ss_dput g.g.units (sndE o st _ h2 g.g) (sndE i st _ h3 g.g) (sndE v st _ h4 g.g) ?_
      rw [swapV_ok hk h1, swapV_sub]
    · cases h
  | .fld o f v, st, s, h, X, c, Wx, l, g => by
    unfold chkS at h
    split at h
    · simp only [Bool.and_eq_true, decide_eq_true_eq] at h
      obtain ⟨⟨⟨⟨h1, h2⟩, h3⟩, h4⟩, h5⟩ := h
      have hk : X.env.scope.kind = .function := by rw [g.g.sc]; exact g.g.kind
      refine ss_fld g.g.b.f.nm (sndE o st _ h4 g.g) (sndE v st _ h5 g.g) h2 h3 ?_
      rw [swapV_ok hk h1, swapV_att]
    · cases h
  | .ex a, st, s, h, X, c, Wx, l, g => by
    unfold chkS at h
    split at h
    · rw [Bool.and_eq_true] at h
      exact ss_ex (sndE a st _ h.2 g.g) h.1
    · cases h
  | .ret a, st, s, h, X, c, Wx, l, g => by
    unfold chkS at h
    split at h
    · exact ss_ret (sndE a st _ h g.g)
    · cases h
  | .retN, st, s, h, X, c, Wx, l, g => by
    unfold chkS at h
    split at h
    · exact ss_retN
    · cases h
  | .ite t a b, st, s, h, X, c, Wx, l, g => by
    unfold chkS at h
    split at h
    · rw [Bool.and_eq_true, Bool.and_eq_true] at h
      exact ss_ite (sndT t st _ h.1.1 g.g) (sndSs a st _ h.1.2 g) (sndSs b st _ h.2 g)
    · cases h
  | .for t it kill body, st, s, h, X, c, Wx, l, g => by
    unfold chkS at h
    split at h
    · rw [Bool.and_eq_true, Bool.and_eq_true, Bool.and_eq_true] at h
      exact ss_for g.po g.g.calm (sndI it st _ _ h.1.2 g.g) (g.g.tg h.1.1.2) h.1.1.1 (sndSs body st _ h.2 g)
    · cases h
  | .whl m t kill body, st, s, h, X, c, Wx, l, g => by
    unfold chkS at h
    split at h
    · rw [Bool.and_eq_true] at h
      exact ss_whl g.po (sndT t st _ h.1 g.g) (sndSs body st _ h.2 g)
    · cases h
  | .raise k, st, s, h, X, c, Wx, l, g => by
    unfold chkS at h
    split at h
    · simp only [Bool.and_eq_true, decide_eq_true_eq] at h
      exact raise_case g.g h.1.1 h.1.2 h.2
    · cases h
  | .try1 _ _ _, st, s, h, X, c, Wx, l, g => by
    unfold chkS at h; cases h
  | .pass, st, s, h, X, c, Wx, l, g => by
    unfold chkS at h
    split at h
    · exact ss_pass
    · cases h
  | .brk, st, s, h, X, c, Wx, l, g => by
    unfold chkS at h
    split at h
    · exact ss_brk
    · cases h
  | .cnt, st, s, h, X, c, Wx, l, g => by
    unfold chkS at h
    split at h
    · exact ss_cnt
    · cases h
  | .gfrz _, st, s, h, X, c, Wx, l, g => by
    unfold chkS at h; cases h
  | .gdrop _, st, s, h, X, c, Wx, l, g => by
    unfold chkS at h; cases h
theorem sndSs : ∀ (x : TT.Ss) (st : Sp0) (ss : List Stmt), chkSs S x st ss = true → ∀ {X : Cx} {c : TT.Cxt} {Wx : WX} {l : Nat}, GoodS S T st X c Wx l → PSs X ss (cS S.N X.K T Wx fun n => TT.evSs c n x)
  | .nil, st, ss, h, X, c, Wx, l, g => by
    unfold chkSs at h
    rw [List.isEmpty_iff] at h
    subst h
    exact sq_nil
  | .cons a r, st, ss, h, X, c, Wx, l, g => by
    unfold chkSs at h
    split at h
    · exact sq_frz (sndSs r st _ h g)
    · exact sq_drop (sndSs r st _ h g)
    · split at h
      · rw [Bool.and_eq_true] at h
        exact sq_cons (sndS a st _ h.1 g) (sndSs r st _ h.2 g)
      · cases h
end
end
end TS

set_option maxRecDepth 100000
/-! A def: it does what the small language says; all defs, at all depths. -/
namespace TS
open PySem PySem.Spec PyProof.Rows L2
section
variable {N : Nm} {K : PySem.W.Frag} {T : List (Addr × Str)} {L L' : Loc} {H H' : Hp} {s s' : Sto}
theorem take_pre (p : Pst L L' H H') : L'.take L.length = L := by
  obtain ⟨X, rfl⟩ := p.pre
  simp
theorem pst_back (p : Pst L L' H H') : Pst L L H H' := p.less ⟨[], by simp⟩ fun a h => by
  obtain ⟨X, rfl⟩ := p.pre
  exact List.mem_append_left _ h
theorem rels_back (p : Pst L L' H H') (z : RelS N K T L' H' s') (hl : L.length = n) : RelS N K T L H' (s'.take n) := by
  subst hl
  have e := take_pre p
  refine z.sub ?_ (fun l a h => ?_) fun l m h d => ?_
  · rw [List.length_take, ← z.len]
    obtain ⟨X, rfl⟩ := p.pre
    simp
  · obtain ⟨X, rfl⟩ := p.pre
    rw [List.getElem?_append_left (List.getElem?_eq_some_iff.mp h).1]
    exact h
  · rw [List.getElem?_take] at h
    split at h
    · rename_i hl
      refine ⟨h, fun a q => ?_⟩
      obtain ⟨X, rfl⟩ := p.pre
      rw [List.getElem?_append_left hl] at q
      exact q
    · cases h
theorem repD_back (p : Pst L L' H H') {v : L2.V} {d : TT.D} (r : RepD N K L' H' v d) : RepD N K L H' v d := by
  refine r.keeps ⟨fun a o n _ _ q => n ?_, fun a o h _ _ => h⟩
  obtain ⟨X, rfl⟩ := p.pre
  exact List.mem_append_left _ q
/-- the way back from a def -/
theorem leave_out {Q : VK} {er : Nat → Hp → Prop} {w : W} {v : L2.V} {kp : Bool} (p : Pst L L' H H') (z : RelS N K T L' H' s') (rv : RepW N K L' H' v w) (hl : L.length = n) (o : Out N K T L H (okW N K Q) er (TT.leave kp n w s')) : Q v H' := by
  have pb := pst_back p
  have zb := rels_back (n := n) p z hl
  cases w with
  | d x =>
    simp only [TT.leave] at o
    exact o L H' pb zb v (repD_back p rv)
  | loc l =>
    simp only [TT.leave] at o
    obtain ⟨a, ea, rfl⟩ := rv
    split at o
    · rename_i hlt
      refine o L H' pb zb (.ref a) ⟨a, ?_, rfl⟩
      rw [← take_pre p, List.getElem?_take, if_pos (by rw [hl]; exact hlt)]
      exact ea
    · rename_i hge
      have nin : some a ∉ L := fun q => by
        obtain ⟨j, ej⟩ := List.mem_iff_getElem?.mp q
        have hj := (List.getElem?_eq_some_iff.mp ej).1
        have ej' : L'[j]? = some (some a) := by
          obtain ⟨X, rfl⟩ := p.pre
          rw [List.getElem?_append_left hj]; exact ej
        have := z.uniq l j a ea ej'
        omega
      have fin : ∀ (m : M) (d : TT.D), s'[l]? = some m → m ≠ .dead → frzM m = some d → RepD N K L H' (.ref a) d := fun m d hm nd hd => by
        obtain ⟨b, eb, mb, rm⟩ := z.loc hm nd
        rw [ea] at eb; cases eb
        have k : Keeps L' L H' H' := ⟨fun a o n _ _ q => n (by obtain ⟨X, rfl⟩ := p.pre; exact List.mem_append_left _ q), fun a o h _ _ => h⟩
        exact (rm.keeps k rfl).frz nin hd
      have fin2 : ∀ (m : M), s'[l]? = some m → m ≠ .dead → Out N K T L H (okW N K Q) er (.ok (.loc n) (s'.take n ++ [m])) → Q (.ref a) H' := fun m hm nd o => by
        obtain ⟨b, eb, mb, rm⟩ := z.loc hm nd
        rw [ea] at eb; cases eb
        have sub : ∀ c, some c ∈ L ++ [some a] → some c ∈ L' := fun c q => by
          rcases List.mem_append.mp q with q | q
          · obtain ⟨X, rfl⟩ := p.pre
            exact List.mem_append_left _ q
          · rw [List.mem_singleton] at q
            cases q
            exact mb
        have k : Keeps L' (L ++ [some a]) H' H' := ⟨fun c o n _ _ q => n (sub c q), fun a o h _ _ => h⟩
        have pa : Pst L (L ++ [some a]) H H' := p.less ⟨[some a], rfl⟩ sub
        have ln : (s'.take n).length = n := by rw [← zb.len, hl]
        have za : RelS N K T (L ++ [some a]) H' (s'.take n ++ [m]) := by
          refine ⟨by rw [List.length_append, List.length_append, zb.len]; rfl, fun i j c h1 h2 => ?_, fun c q => z.there c (sub c q), fun i m' h d => ?_, z.tabs⟩
          · have at' : ∀ {i : Nat} {c : Addr}, (L ++ [some a])[i]? = some (some c) → (i < L.length ∧ L[i]? = some (some c)) ∨ (i = L.length ∧ c = a) := fun {i c} h => by
              rw [List.getElem?_append] at h
              split at h
              · rename_i q; exact .inl ⟨q, h⟩
              · rename_i q
                have h3 := (List.getElem?_eq_some_iff.mp h).1
                simp at h3
                have : i = L.length := by omega
                subst this
                simp at h
                exact .inr ⟨rfl, h.symm⟩
            rcases at' h1 with ⟨q1, q2⟩ | ⟨q1, q2⟩
            · rcases at' h2 with ⟨q3, q4⟩ | ⟨q3, q4⟩
              · exact zb.uniq i j c q2 q4
              · subst q4; exact absurd (List.mem_of_getElem? q2) nin
            · rcases at' h2 with ⟨q3, q4⟩ | ⟨q3, q4⟩
              · subst q2; exact absurd (List.mem_of_getElem? q4) nin
              · omega
          · rw [List.getElem?_append] at h
            split at h
            · rename_i q
              obtain ⟨c, e1, e2⟩ := zb.at_ i m' h d
              have e3 : L'[i]? = some (some c) := by
                obtain ⟨X, rfl⟩ := p.pre
                rw [List.getElem?_append_left (List.getElem?_eq_some_iff.mp e1).1]; exact e1
              have hs : s'[i]? = some m' := by
                rw [List.getElem?_take] at h
                split at h
                · exact h
                · cases h
              obtain ⟨c', e4, e5⟩ := z.at_ i m' hs d
              rw [e3] at e4; cases e4
              refine ⟨c, ?_, e5.keeps k rfl⟩
              rw [List.getElem?_append_left (List.getElem?_eq_some_iff.mp e1).1]; exact e1
            · rename_i q
              have h3 := (List.getElem?_eq_some_iff.mp h).1
              simp at h3
              have : i = (s'.take n).length := by
                rw [List.length_take]
                rw [List.length_take] at q
                omega
              subst this
              simp at h
              subst h
              refine ⟨a, ?_, rm.keeps k rfl⟩
              rw [← zb.len]
              simp
        exact o _ H' pa za (.ref a) ⟨a, by rw [← hl]; simp, rfl⟩
      cases kp with
      | false =>
        simp only [Bool.false_eq_true, if_false] at o
        split at o
        · rename_i ds e1
          exact o L H' pb zb (.ref a) (fin _ _ e1 (fun q => nomatch q) rfl)
        · rename_i t ks vs e1
          exact o L H' pb zb (.ref a) (fin _ _ e1 (fun q => nomatch q) rfl)
        · rename_i c ks vs e1
          exact o L H' pb zb (.ref a) (fin _ _ e1 (fun q => nomatch q) rfl)
        · exact False.elim o
      | true =>
        simp only [if_true] at o
        split at o
        · rename_i ds e1
          exact fin2 _ e1 (fun q => nomatch q) o
        · rename_i t ks vs e1
          exact fin2 _ e1 (fun q => nomatch q) o
        · rename_i c ks vs e1
          exact fin2 _ e1 (fun q => nomatch q) o
        · exact False.elim o
theorem start_rel {vs : List L2.V} {ws : List W} {Ns : List Str} (r : RepWs N K L H vs ws) (h : ws.length ≤ Ns.length) : RelE N K L H (L2.start Ns vs) (ws.map some ++ List.replicate (Ns.length - ws.length) none) := by
  refine ⟨by simp [L2.start, r.len], fun i w e => ?_⟩
  rw [List.getElem?_append] at e
  split at e
  · rename_i hi
    rw [List.getElem?_map] at e
    cases e1 : ws[i]? with
    | none => rw [e1] at e; cases e
    | some u =>
      rw [e1] at e
      simp only [Option.map_some, Option.some.injEq] at e
      subst e
      have key : ∀ {vs : List L2.V} {ws : List W} {i : Nat}, RepWs N K L H vs ws → ws[i]? = some u → ∃ v, vs[i]? = some v ∧ RepW N K L H v u := by
        intro vs ws i r
        induction r generalizing i with
        | nil => intro e; simp at e
        | cons r t ih =>
          intro e
          cases i with
          | zero => simp at e; subst e; exact ⟨_, rfl, r⟩
          | succ i => exact (ih (i := i) (by simpa using e)).imp fun v h => ⟨by simpa using h.1, h.2⟩
      obtain ⟨v, h1, h2⟩ := key r e1
      refine ⟨v, ?_, h2⟩
      unfold L2.start
      have hv : i < vs.length := (List.getElem?_eq_some_iff.mp h1).1
      rw [List.getElem?_append_left (by simpa using hv), List.getElem?_map, h1]
      rfl
  · rw [List.getElem?_replicate] at e
    split at e <;> cases e
end
section
variable {S : Sig} {T : List (Addr × Str)} {P : Program} {w : World} {K : PySem.W.Frag} {mg : Str → Option Value} {base : Heap}
/-- a def's place for lambdas -/
def LamD (K : PySem.W.Frag) (mg : Str → Option Value) (base : Heap) (T : List (Addr × Str)) (d : He.DefD) : Prop :=
  LamX.TabB base mg (He.cT K d.at_).1 (He.cT K d.at_).2 ∧ ((He.cT K d.at_).2, d.qual ++ ".<locals>." ++ "<lambda>") ∈ T ∧ ∀ p ∈ T, p.1 = (He.cT K d.at_).2 → p.2 = d.qual ++ ".<locals>." ++ "<lambda>"
/-- what is checked of a def -/
def fnB (S : Sig) (d : He.DefD) (N : List Str) (lam : Bool) (fn : TT.Fn) : Bool :=
  C8.scC N (N.take fn.np) d.scope && decide (fn.ns = N.length) && decide (fn.np ≤ N.length) && chkSs S fn.body ⟨N, d.scope, fun _ => true, lam⟩ d.body
theorem fn_step {l : Nat} {F : Nat → TT.Fun} {d : He.DefD} {N : List Str} {lam : Bool} {fn : TT.Fn} {fd : FuncData} {dvs : List L2.V} {kws : List (Str × L2.V)} (B : Base S P w K mg base T l F) (hl : 2 ≤ l) (Fd : FunD K d.name d.qual d.params d.body d.scope dvs kws (He.fAd K d.at_) fd) (chk : fnB S d N lam fn = true)
    (hlam : lam = true → 4 ≤ l ∧ LamD K mg base T d ∧ AskOk S.N P w K mg base T S.P.words S.asked) :
    FnOk P w K mg base (L2.CX P w) (l + 1) (He.fAd K d.at_) fd (N.take fn.np) (spF S.N K T (TT.runFn ⟨S.P, F⟩ fn)) := by
  unfold fnB at chk
  simp only [Bool.and_eq_true, decide_eq_true_eq] at chk
  obtain ⟨⟨⟨c1, c2⟩, c3⟩, c4⟩ := chk
  have SC := C8.fnScope_by c1
  obtain ⟨oc, od, dV, kV, doc, pm, an, cdv, ct, osl, rfl, lk, hcd, _, _⟩ := Fd.ex
  have len : ∀ vs H Q E, spF S.N K T (TT.runFn ⟨S.P, F⟩ fn) vs H Q E → vs.length = (N.take fn.np).length := by
    intro vs H Q E ⟨L, ws, s, rw', rs, o⟩
    unfold TT.runFn at o
    split at o
    · rename_i h
      rw [rw'.len, h.1, List.length_take]
      omega
    · exact False.elim o
  refine fn_of lk hcd SC len fun A outer s H vs Q E hr hsp => ?_
  obtain ⟨c, hc⟩ := He.codeIn_ref hcd
  have G : GoodS S T ⟨N, d.scope, fun _ => true, lam⟩ (cxOf (L2.CX P w) P w K mg base N d.qual d.scope (He.fAd K d.at_) cdv A outer s H E) ⟨S.P, F⟩ (fun cls d _ H => E cls d H) l := by
    refine ⟨⟨rfl, SC.nd, rfl, SC.kind, fun _ _ => rfl, rfl, hr, L2.takes_of rfl rfl rfl rfl, rfl, B, hl, fun h => ?_⟩, L2.passes_of rfl⟩
    obtain ⟨h1, ⟨h2, h3, h4⟩, h5⟩ := hlam h
    refine ⟨h1, ⟨c, (He.cT K d.at_).2, hc, ?_, h3, h4⟩, h5⟩
    have e : (He.cT K d.at_).1 = c := He.codeOf_eq lk hc
    rw [e] at h2
    exact h2
  refine ⟨_, sndSs fn.body _ d.body c4 G, ?_⟩
  obtain ⟨L, ws, st, rw', rs, o⟩ := hsp
  unfold TT.runFn at o
  split at o
  · rename_i h
    refine ⟨L, H, L, _, st, Pst.refl _ _, start_rel (Ns := N) rw' (by omega), rs, ?_⟩
    have ln : L.length = st.length := rs.len
    rw [ln]
    show Out S.N K T L H (flow S.N K 0 { nx := fun _ H' => Q .non H', rt := Q }) (erS S.N K fun cls d _ H => E cls d H) (TT.evSs ⟨S.P, F⟩ st.length fn.body (ws.map some ++ List.replicate (N.length - ws.length) none) st)
    have e1 : fn.ns - fn.np = N.length - ws.length := by omega
    rw [e1] at o
    cases hr : TT.evSs ⟨S.P, F⟩ st.length fn.body (ws.map some ++ List.replicate (N.length - ws.length) none) st with
    | no => rw [hr] at o; exact False.elim o
    | err x s2 =>
      rw [hr] at o
      exact fun L2 H2 p z σ => o L H2 (pst_back p) (rels_back p z ln)
    | ok r s2 =>
      rw [hr] at o
      obtain ⟨fl, e2⟩ := r
      intro L2 H2 p z
      cases fl with
      | nx => exact fun σ _ => o L H2 (pst_back p) (rels_back p z ln) .non .non
      | ret w' => exact fun v rv => leave_out p z rv ln o
      | brk => exact False.elim o
      | cnt => exact False.elim o
  · exact False.elim o
end
end TS

set_option maxRecDepth 100000
/-! Plain parameters. -/
namespace TS
open PySem PySem.Spec PyProof.Rows L2
theorem zip_look {α β : Type} [BEq α] [LawfulBEq α] : ∀ {ps : List α} {us : List β}, ps.Nodup → us.length = ps.length → ∀ {n : α}, n ∈ ps → ((ps.zip us).lookup n).isSome = true
  | [], _, _, _, _, h => by cases h
  | p :: ps, [], _, h, _, _ => by simp at h
  | p :: ps, u :: us, nd, h, n, hn => by
    rw [List.zip_cons_cons, List.lookup_cons]
    by_cases e : n == p
    · simp [e]
    · simp only [e]
      have : n ∈ ps := by
        rcases List.mem_cons.mp hn with q | q
        · subst q; simp at e
        · exact q
      exact zip_look (List.nodup_cons.mp nd).2 (by simpa using h) this
theorem fm_cong {α β : Type} {f g : α → Option β} : ∀ {l : List α}, (∀ x ∈ l, f x = g x) → l.filterMap f = l.filterMap g
  | [], _ => rfl
  | x :: l, h => by
    rw [List.filterMap_cons, List.filterMap_cons, h x (by simp), fm_cong fun y hy => h y (by simp [hy])]
theorem zip_map {α β : Type} [BEq α] [LawfulBEq α] : ∀ {ps : List α} {us : List β}, ps.Nodup → us.length = ps.length → (ps.filterMap fun n => ((ps.zip us).lookup n).map fun v => (n, v)) = ps.zip us
  | [], _, _, _ => by simp
  | p :: ps, [], _, h => by simp at h
  | p :: ps, u :: us, nd, h => by
    have ⟨n1, n2⟩ := List.nodup_cons.mp nd
    rw [List.zip_cons_cons, List.filterMap_cons]
    simp only [List.lookup_cons, beq_self_eq_true, Option.map_some]
    congr 1
    conv => rhs; rw [← zip_map (us := us) n2 (by simpa using h)]
    apply fm_cong
    intro x hx
    have : (x == p) = false := beq_eq_false_iff_ne.mpr fun e => n1 (e ▸ hx)
    rw [this]
def plainArgs : Arguments → List Str → Bool
  | ⟨[], as, none, [], [], none, []⟩, ps => decide (as.map (·.arg) = ps)
  | _, _ => false
theorem bind_plain {x qual : Str} {params : Arguments} {body : List Stmt} {scope : Scope} {kV doc pm : Value} {an : Option Addr} {cdv ct : Value} {ps : List Str} {us : List Value} (h : plainArgs params ps = true) (nd : ps.Nodup) (hl : us.length = ps.length) :
    bindArgs (PySem.W.fnOf x qual params body scope .none kV doc pm an cdv ct) ⟨us, []⟩ = pure (ps.zip us) := by
  unfold plainArgs at h
  split at h
  · rename_i as _
    have e := of_decide_eq_true h
    unfold bindArgs
    have e1 : seqItems? Value.none = pure none := rfl
    have e2 : (ps.filter fun n => ((ps.zip us).lookup n).isNone) = [] := by
      rw [List.filter_eq_nil_iff]
      intro n hn
      have := zip_look nd hl hn
      rw [Option.isNone_iff_eq_none]
      intro q
      rw [q] at this; cases this
    have e3 := zip_map (us := us) nd hl
    simp only [PySem.W.fnOf, e, e1]
    simp [hl, e2, e3]
  · cases h
end TS

set_option maxRecDepth 100000
/-! All defs at all depths; what the module keeps; the law's end. -/
namespace TS
open PySem PySem.Spec PyProof.Rows L2
def oneB (S : Sig) (e : DefS) (fn : TT.Fn) : Bool := fnB S e.d e.N e.lam fn && plainArgs e.d.params (e.N.take fn.np)
def allB (S : Sig) : List DefS → List TT.Fn → Bool
  | [], [] => true
  | e :: es, f :: fs => oneB S e f && allB S es fs
  | _, _ => false
theorem allB_at {S : Sig} : ∀ {es : List DefS} {fs : List TT.Fn}, allB S es fs = true → es.length = fs.length ∧ ∀ (i : Nat) (e : DefS) (f : TT.Fn), es[i]? = some e → fs[i]? = some f → oneB S e f = true
  | [], [], _ => ⟨rfl, fun i e f h => by simp at h⟩
  | e :: es, f :: fs, h => by
    simp only [allB, Bool.and_eq_true] at h
    obtain ⟨h1, h2⟩ := allB_at h.2
    refine ⟨by simp [h1], fun i e' f' q1 q2 => ?_⟩
    cases i with
    | zero => simp at q1 q2; subst q1; subst q2; exact h.1
    | succ i => exact h2 i e' f' (by simpa using q1) (by simpa using q2)
  | [], _ :: _, h => by cases h
  | _ :: _, [], h => by cases h
section
variable {S : Sig} {T : List (Addr × Str)} {P : Program} {w : World} {K : PySem.W.Frag} {mg : Str → Option Value} {base : Heap}
theorem phiA_le (Q : TT.Prog) : ∀ (k i : Nat), i ≤ k → TT.PhiA Q k i = TT.Phi Q (k - i)
  | k, 0, _ => rfl
  | k + 1, i + 1, h => by
    show TT.PhiA Q k i = _
    rw [phiA_le Q k i (by omega)]
    congr 1
    omega
theorem phiA_gt (Q : TT.Prog) : ∀ (k i : Nat), k ≤ i → TT.PhiA Q k i = fun _ _ _ => .no
  | 0, i, _ => by
    funext a b c
    rfl
  | k + 1, i + 1, h => phiA_gt Q k i (by omega)
theorem no_at {N : Nm} {k : Nat} {fa : Addr} {fd : FuncData} {ps : List Str} (B : Binds K fd ps []) : FnAt N P w K mg base T k (fun _ _ => .no) fa :=
  ⟨fd, ps, ⟨fun vs H Q E ⟨_, _, _, _, _, o⟩ => False.elim o, fun A outer s H args us vs Q E _ _ _ _ ⟨_, _, _, _, _, o⟩ => False.elim o⟩, B⟩
theorem all_ok {ds : List DefS} (bf : BaseF S K mg) (ats : S.ats = ds.map fun e => e.d.at_) (chk : allB S ds S.P.fns = true)
    (hd : ∀ e ∈ ds, ∃ fd, FunD K e.d.name e.d.qual e.d.params e.d.body e.d.scope [] [] (He.fAd K e.d.at_) fd)
    (hlam : ∀ e ∈ ds, e.lam = true → LamD K mg base T e.d ∧ AskOk S.N P w K mg base T S.P.words S.asked) :
    ∀ k n, n < S.P.fns.length → FnAt S.N P w K mg base T (k + 4) (TT.Phi S.P k n) (S.fa K n) := by
  obtain ⟨ln, chk⟩ := allB_at chk
  have info : ∀ n, n < S.P.fns.length → ∃ e f fd, ds[n]? = some e ∧ S.P.fns[n]? = some f ∧ e ∈ ds ∧ S.fa K n = He.fAd K e.d.at_ ∧ FunD K e.d.name e.d.qual e.d.params e.d.body e.d.scope [] [] (He.fAd K e.d.at_) fd ∧ fnB S e.d e.N e.lam f = true ∧ Binds K fd (e.N.take f.np) [] := by
    intro n hn
    have h1 : ds[n]? = some ds[n] := List.getElem?_eq_getElem (by omega)
    have h2 : S.P.fns[n]? = some S.P.fns[n] := List.getElem?_eq_getElem hn
    have hm : ds[n] ∈ ds := List.getElem_mem _
    obtain ⟨fd, F⟩ := hd _ hm
    have c := chk n _ _ h1 h2
    unfold oneB at c
    rw [Bool.and_eq_true] at c
    refine ⟨_, _, fd, h1, h2, hm, ?_, F, c.1, ?_⟩
    · unfold Sig.fa
      rw [ats, List.getElem?_map, h1]
      rfl
    · have c' := c.1
      unfold fnB at c'
      simp only [Bool.and_eq_true] at c'
      have sc := C8.fnScope_by c'.1.1.1
      exact F.bindsN fun kV doc pm an cdv ct us hl => bind_plain c.2 (sc.nd.sublist (List.take_sublist _ _)) hl
  intro k
  induction k using Nat.strongRecOn with
  | ind k ih =>
    intro n hn
    obtain ⟨e, f, fd, h1, h2, hm, h3, F, h4, B⟩ := info n hn
    cases k with
    | zero => exact no_at B
    | succ k =>
      have base' : Base S P w K mg base T (k + 4) (TT.PhiA S.P k) := by
        refine ⟨bf, fun i hi m hmm => ?_⟩
        by_cases q : i ≤ k
        · rw [phiA_le _ _ _ q, show k + 4 - i = (k - i) + 4 by omega]
          exact ih (k - i) (by omega) m hmm
        · rw [phiA_gt _ _ _ (by omega)]
          obtain ⟨_, _, fd', _, _, _, _, _, _, B'⟩ := info m hmm
          exact no_at B'
      have step := fn_step base' (by omega) F h4 fun hl => ⟨by omega, hlam e hm hl⟩
      rw [h3]
      refine ⟨fd, e.N.take f.np, ?_, B⟩
      have ev : TT.Phi S.P (k + 1) n = TT.runFn ⟨S.P, TT.PhiA S.P k⟩ f := by
        funext ws s
        show TT.runAll S.P (TT.PhiA S.P k) n ws s = _
        unfold TT.runAll
        rw [h2]
      rw [ev]
      exact step
end
/-! ### facts -/
def smallS (x : Str) : Bool := x.cps.toList.all fun c => decide (c < 2000000)
/-- the tables fit -/
def Sig.okB (S : Sig) : Bool :=
  (S.gl.all fun p => decide (S.ats[p.2]? = some (p.1, none))) && (S.cls.all fun p => decide (S.N.cs[p.2]? = some p.1)) &&
  (S.P.inits.all fun p => decide (p.1 < S.N.cs.length) && decide (S.ats[p.2]? = some (S.N.cn p.1, some ("__init__" : Str)))) &&
  (S.P.meths.all fun t => decide (t.2.2 < S.P.fns.length) && decide (S.ats[t.2.2]? = some (S.N.cn t.1, some (S.N.mn t.2.1)))) &&
  (S.cons.all fun p => match p.2 with
    | .int _ => true
    | .str _ => true
    | _ => false) && (S.blts.all fun x => !(x == ("__name__" : Str))) &&
  decide S.N.as.Nodup && (S.N.as.all fun x => smallS x && decide (x ∉ S.N.ms)) && S.N.ms.all smallS
theorem nmAt_get {k : Nat} {l : List Str} {i : Nat} {x : Str} (h : l[i]? = some x) : nmAt k l i = x := by
  unfold nmAt
  rw [h]
theorem nmAt_out {k : Nat} {l : List Str} {i : Nat} (h : l[i]? = none) : nmAt k l i = ⟨#[k, i]⟩ := by
  unfold nmAt
  rw [h]
theorem small_ne {x : Str} {k i : Nat} (h : smallS x = true) (hk : 2000000 ≤ k) : x ≠ ⟨#[k, i]⟩ := by
  intro e
  subst e
  unfold smallS at h
  simp at h
  omega
theorem nm_ok {S : Sig} {K : PySem.W.Frag} (h1 : S.N.as.Nodup) (h2 : ∀ x ∈ S.N.as, smallS x = true ∧ x ∉ S.N.ms) (h3 : ∀ x ∈ S.N.ms, smallS x = true) (fa : ∀ f ∈ S.facts, f.ok K = true) : NmOk S.N K where
  inj := fun i j e => by
    unfold Nm.an at e
    cases hi : S.N.as[i]? with
    | none =>
      rw [nmAt_out hi] at e
      cases hj : S.N.as[j]? with
      | none =>
        rw [nmAt_out hj] at e
        simpa using e
      | some y =>
        rw [nmAt_get hj] at e
        exact absurd e.symm (small_ne (h2 y (List.mem_of_getElem? hj)).1 (by decide))
    | some x =>
      rw [nmAt_get hi] at e
      cases hj : S.N.as[j]? with
      | none =>
        rw [nmAt_out hj] at e
        exact absurd e (small_ne (h2 x (List.mem_of_getElem? hi)).1 (by decide))
      | some y =>
        rw [nmAt_get hj] at e
        subst e
        have a1 := List.getElem?_eq_some_iff.mp hi
        have a2 := List.getElem?_eq_some_iff.mp hj
        have pw := List.pairwise_iff_getElem.mp h1
        rcases Nat.lt_trichotomy i j with q | q | q
        · exact absurd (a1.2.trans a2.2.symm) (pw i j a1.1 a2.1 q)
        · exact q
        · exact absurd (a2.2.trans a1.2.symm) (pw j i a2.1 a1.1 q)
  dis := fun i m e => by
    unfold Nm.an Nm.mn at e
    cases hi : S.N.as[i]? with
    | none =>
      rw [nmAt_out hi] at e
      cases hj : S.N.ms[m]? with
      | none => rw [nmAt_out hj] at e; simp at e
      | some y =>
        rw [nmAt_get hj] at e
        exact absurd e.symm (small_ne (h3 y (List.mem_of_getElem? hj)) (by decide))
    | some x =>
      rw [nmAt_get hi] at e
      cases hj : S.N.ms[m]? with
      | none =>
        rw [nmAt_out hj] at e
        exact absurd e (small_ne (h2 x (List.mem_of_getElem? hi)).1 (by decide))
      | some y =>
        rw [nmAt_get hj] at e
        subst e
        exact (h2 x (List.mem_of_getElem? hi)).2 (List.mem_of_getElem? hj)
  cls := fun c hc => by
    have e : S.N.cs[c]? = some S.N.cs[c] := List.getElem?_eq_getElem hc
    unfold Nm.ca Nm.cn
    rw [nmAt_get e]
    refine He.cls_ok (fa _ ?_)
    unfold Sig.facts
    simp only [List.mem_append, List.mem_map]
    exact .inr (.inr (.inr (.inr (.inl ⟨_, List.getElem_mem hc, rfl⟩))))
  noat := fun c f hc hf => by
    have e : S.N.cs[c]? = some S.N.cs[c] := List.getElem?_eq_getElem hc
    have e' : S.N.as[f]? = some S.N.as[f] := List.getElem?_eq_getElem hf
    unfold Nm.ca Nm.cn Nm.an
    rw [nmAt_get e, nmAt_get e']
    refine He.noat_ok (fa _ ?_)
    unfold Sig.facts
    simp only [List.mem_append, List.mem_map, List.mem_flatMap]
    exact .inr (.inr (.inr (.inr (.inr (.inl ⟨_, List.getElem_mem hc, _, List.getElem_mem hf, rfl⟩)))))
theorem lookup_mem {α β : Type} [BEq α] [LawfulBEq α] {x : α} {y : β} : ∀ {l : List (α × β)}, l.lookup x = some y → (x, y) ∈ l
  | [], h => by cases h
  | (a, b) :: l, h => by
    rw [List.lookup_cons] at h
    by_cases e : x == a
    · simp only [e] at h
      cases h
      have := eq_of_beq e
      subst this
      exact List.mem_cons_self
    · simp only [e] at h
      exact List.mem_cons_of_mem _ (lookup_mem h)
theorem base_f {S : Sig} {K : PySem.W.Frag} {h : Heap} {mg : Str → Option Value} (ok : S.okB = true) (nw : nwB S K = true) (X : K.In h) (G : h.Ns mainGlobals mg) (fa : ∀ f ∈ S.facts, f.ok K = true) (kp : ∀ (n : Nat) (p : Str × Option Str), S.ats[n]? = some p → PySem.W.keepIn K (.ref (He.fAd K p)) = true) : BaseF S K mg := by
  unfold Sig.okB at ok
  simp only [Bool.and_eq_true, List.all_eq_true, decide_eq_true_eq] at ok
  obtain ⟨⟨⟨⟨⟨⟨⟨⟨o1, o2⟩, o3⟩, o4⟩, o5⟩, o6⟩, o7⟩, o8⟩, o9⟩ := ok
  have at_ : ∀ {n : Nat} {p : Str × Option Str}, S.ats[n]? = some p → S.fa K n = He.fAd K p := fun e => by unfold Sig.fa; rw [e]
  refine ⟨nm_ok o7 o8 o9 fa, fun x hx => ⟨He.free_ok X G (fa _ ?_), ?_⟩, fun x d hd => ?_, fun x n hn => ?_, fun x cl hc => ?_, fun x cl hc hi => ?_, isi_of (Bool.and_eq_true_iff.mp (Bool.and_eq_true_iff.mp nw).2).1, fun c hc => ?_, fun cl m n hm => ?_, fun i x hx => ?_⟩
  · unfold Sig.facts
    simp only [List.mem_append, List.mem_map]
    exact .inr (.inr (.inl ⟨x, hx, rfl⟩))
  · have := o6 x hx
    simpa using this
  · have hm := lookup_mem hd
    have := o5 _ hm
    have key : ∀ f ∈ conF (x, d), f ∈ S.facts := fun f hf => by
      unfold Sig.facts
      simp only [List.mem_append, List.mem_flatMap]
      exact .inr (.inr (.inr (.inl ⟨_, hm, hf⟩)))
    cases d <;> first | (cases this; done) | skip
    · rename_i i
      obtain ⟨t, e⟩ := He.int_ok X G (fa _ (key (.int x i) (by simp [conF])))
      exact ⟨_, .int _, e, ⟨t, rfl⟩, fun L H => .int _⟩
    · rename_i z
      obtain ⟨t, e⟩ := He.str_ok X G (fa _ (key (.str x z) (by simp [conF])))
      exact ⟨_, .str _, e, ⟨t, rfl⟩, fun L H => .str _⟩
  · have e := o1 _ (lookup_mem hn)
    rw [at_ e]
    refine ⟨He.glo_ok X G (fa _ ?_), kp n _ e⟩
    unfold Sig.facts
    simp only [List.mem_append, List.mem_map]
    exact .inl ⟨_, lookup_mem hn, rfl⟩
  · have e := o2 _ (lookup_mem hc)
    have hlt := (List.getElem?_eq_some_iff.mp e).1
    have en : S.N.cn cl = x := nmAt_get e
    refine ⟨hlt, ?_, fun n hi => ?_⟩
    · unfold Nm.ca
      rw [en]
      refine He.glo_ok X G (fa _ ?_)
      unfold Sig.facts
      simp only [List.mem_append, List.mem_map]
      exact .inr (.inl ⟨_, lookup_mem hc, rfl⟩)
    · have e2 := (o3 _ (lookup_mem hi)).2
      rw [at_ e2]
      refine He.mkr_ok (fa _ ?_)
      unfold Sig.facts
      simp only [List.mem_append, List.mem_map]
      exact .inr (.inr (.inr (.inr (.inr (.inr (.inl ⟨_, lookup_mem hi, rfl⟩))))))
  · have := List.all_eq_true.mp (Bool.and_eq_true_iff.mp nw).1 _ (lookup_mem hc)
    simp only [hi] at this
    exact mk0_of this
  · exact oeq_of (List.all_eq_true.mp (Bool.and_eq_true_iff.mp (Bool.and_eq_true_iff.mp nw).2).2 c (List.mem_range.mpr hc))
  · unfold TT.Prog.meth at hm
    rw [Option.map_eq_some_iff] at hm
    obtain ⟨t, h1, rfl⟩ := hm
    have h2 := List.find?_some h1
    have h3 := List.mem_of_find?_eq_some h1
    simp only [Bool.and_eq_true, beq_iff_eq] at h2
    obtain ⟨rfl, rfl⟩ := h2
    have e := o4 _ h3
    refine ⟨e.1, ?_⟩
    rw [at_ e.2]
    refine He.meth_ok (fa _ ?_)
    unfold Sig.facts
    simp only [List.mem_append, List.mem_map]
    exact .inr (.inr (.inr (.inr (.inr (.inr (.inr (.inl ⟨_, h3, rfl⟩)))))))
  · have en : S.N.en i = x := nmAt_get hx
    unfold Nm.ea
    rw [en]
    have m1 : He.Fa.glo x ∈ S.facts := by
      unfold Sig.facts
      simp only [List.mem_append, List.mem_map]
      exact .inr (.inr (.inr (.inr (.inr (.inr (.inr (.inr (.inl ⟨x, List.mem_of_getElem? hx, rfl⟩))))))))
    have m2 : He.Fa.exc x ∈ S.facts := by
      unfold Sig.facts
      simp only [List.mem_append, List.mem_map]
      exact .inr (.inr (.inr (.inr (.inr (.inr (.inr (.inr (.inr ⟨x, List.mem_of_getElem? hx, rfl⟩))))))))
    obtain ⟨k1, k2, k3, k4⟩ := He.exc_ok (fa _ m2)
    exact ⟨He.glo_ok X G (fa _ m1), k1, k2, k3, k4⟩
end TS

set_option maxRecDepth 100000
/-! The law's end. -/
namespace TS
open PySem PySem.Spec PyProof.Rows L2
theorem map_inj {α β : Type} {f : α → β} : ∀ {l : List α}, (l.map f).Nodup → ∀ {a b : α}, a ∈ l → b ∈ l → f a = f b → a = b
  | [], _, _, _, h, _, _ => by cases h
  | x :: l, nd, a, b, ha, hb, e => by
    rw [List.map_cons, List.nodup_cons] at nd
    rcases List.mem_cons.mp ha with ea | ha'
    · rcases List.mem_cons.mp hb with eb | hb'
      · rw [ea, eb]
      · exact absurd (List.mem_map.mpr ⟨b, hb', by rw [← e, ea]⟩) nd.1
    · rcases List.mem_cons.mp hb with eb | hb'
      · exact absurd (List.mem_map.mpr ⟨a, ha', by rw [e, eb]⟩) nd.1
      · exact map_inj nd.2 ha' hb' e
section
variable {S : Sig} {P : Program} {w : World} {K : PySem.W.Frag} {mg : Str → Option Value} {base : Heap} {ds : List DefS}
theorem lamD_of (nd : exT ds K = true) (tb : ∀ p ∈ (tfOf ds).map (He.cT K), LamX.TabB base mg p.1 p.2) {e : DefS} (he : e ∈ ds) (hl : e.lam = true) : LamD K mg base (tabT ds K) e.d := by
  have hm : e ∈ lams ds := List.mem_filter.mpr ⟨he, hl⟩
  refine ⟨tb _ (List.mem_map.mpr ⟨e.d.at_, List.mem_map.mpr ⟨e, hm, rfl⟩, rfl⟩), List.mem_map.mpr ⟨e, hm, rfl⟩, fun p hp q => ?_⟩
  obtain ⟨e', hm', rfl⟩ := List.mem_map.mp hp
  have nd' := of_decide_eq_true nd
  have := map_inj (f := fun e : DefS => (He.cT K e.d.at_).2) nd' hm' hm q
  subst this
  rfl
/-- of a def with its record -/
theorem top_ok {T : List (Addr × Str)} (bf : BaseF S K mg) (ats : S.ats = ds.map fun e => e.d.at_) (chk : allB S ds S.P.fns = true)
    (hd : ∀ e ∈ ds, ∃ fd, FunD K e.d.name e.d.qual e.d.params e.d.body e.d.scope [] [] (He.fAd K e.d.at_) fd)
    (hlam : ∀ e ∈ ds, e.lam = true → LamD K mg base T e.d ∧ AskOk S.N P w K mg base T S.P.words S.asked) {k n : Nat} {e : DefS} {f : TT.Fn} {fd : FuncData} (h1 : ds[n]? = some e) (h2 : S.P.fns[n]? = some f)
    (F : FunD K e.d.name e.d.qual e.d.params e.d.body e.d.scope [] [] (He.fAd K e.d.at_) fd) : FnOk P w K mg base (L2.CX P w) (k + 5) (He.fAd K e.d.at_) fd (e.N.take f.np) (spF S.N K T (TT.Phi S.P (k + 1) n)) := by
  have all := all_ok bf ats chk hd hlam
  obtain ⟨ln, c⟩ := allB_at chk
  have c := c n e f h1 h2
  unfold oneB at c
  rw [Bool.and_eq_true] at c
  have base' : Base S P w K mg base T (k + 4) (TT.PhiA S.P k) := by
    refine ⟨bf, fun i hi m hmm => ?_⟩
    by_cases q : i ≤ k
    · rw [phiA_le _ _ _ q, show k + 4 - i = (k - i) + 4 by omega]
      exact all (k - i) m hmm
    · rw [phiA_gt _ _ _ (by omega)]
      obtain ⟨fd', ps', _, B'⟩ := all 0 m hmm
      exact no_at B'
  have step := fn_step base' (by omega) F c.1 fun hl => ⟨by omega, hlam e (List.mem_of_getElem? h1) hl⟩
  have ev : TT.Phi S.P (k + 1) n = TT.runFn ⟨S.P, TT.PhiA S.P k⟩ f := by
    funext ws s
    show TT.runAll S.P (TT.PhiA S.P k) n ws s = _
    unfold TT.runAll
    rw [h2]
  rw [ev]
  exact step
theorem rep_ints {N : Nm} {L : Loc} {H : Hp} : ∀ (ns : List Int), RepDs N K L H (ns.map V.int) (ns.map TT.D.int)
  | [] => .nil
  | n :: ns => .cons (.int n) (rep_ints ns)
/-- what the checks say of the tables and the texts -/
structure Plan (S : Sig) (ds : List DefS) (li : Nat) (x : Str) : Prop where
  ok : S.okB = true
  ats : S.ats = ds.map fun e => e.d.at_
  chk : allB S ds S.P.fns = true
  plain : (ds.all fun e => e.d.dfl.isEmpty && e.d.kwd.isEmpty) = true
  law : S.ats[li]? = some (("law" : Str), none)
  par : (match ds[li]?, S.P.fns[li]? with
    | some e, some f => decide (e.N.take f.np = [x])
    | _, _ => false) = true
theorem law_at {l : PySem.W.OpenLaw} {ex : PySem.W.Frag → Bool} {h : Heap} {fa0 : Addr} {li k : Nat} {x : Str} {more : List He.Fa} {defs : List He.DefD} (pl : Plan S ds li x) (KX : K.In h) (G : h.Ns mainGlobals mg) (hmg : mg ("law" : Str) = some (.ref fa0))
    (c : He.SaysX (.glo "law" :: (S.facts ++ more)) (ds.map (·.d) ++ defs) [] (tfOf ds) ex w h K) (hex : ex K = true → exT ds K = true) (hnw : ex K = true → nwB S K = true)
    (ask : (∀ e ∈ ds, e.lam = false) ∨ ∀ base : Heap, K.In base → base.Ns mainGlobals mg → AskOk S.N l.prog w K mg base (tabT ds K) S.P.words S.asked)
    (run : ∀ ns : List Int, ns.length ≤ 63 → (∀ z ∈ ns, Builtin.Int.intBits z ≤ 1048576) → ∃ s, TT.Phi S.P (k + 1) li [.d (.rol (ns.map .int))] [] = .ok (.d (.bl true)) s) :
    LamX.LawAtS l w K (L2.CX l.prog w) (k + 5) 63 x mg fa0 h := by
  have cd := c.t.d
  have hd : ∀ e ∈ ds, ∃ fd, FunD K e.d.name e.d.qual e.d.params e.d.body e.d.scope [] [] (He.fAd K e.d.at_) fd := fun e he => by
    obtain ⟨fd, F⟩ := cd.defs (d := e.d) (List.mem_append_left _ (List.mem_map.mpr ⟨e, he, rfl⟩))
    have p := List.all_eq_true.mp pl.plain e he
    rw [Bool.and_eq_true, List.isEmpty_iff, List.isEmpty_iff] at p
    have e1 : e.d.dvs K = [] := by unfold He.DefD.dvs; rw [p.1]; rfl
    have e2 : e.d.kws K = [] := by unfold He.DefD.kws; rw [p.2]; rfl
    rw [e1, e2] at F
    exact ⟨fd, F⟩
  have fa : ∀ f ∈ S.facts, f.ok K = true := fun f hf => cd.facts (List.mem_cons_of_mem _ (List.mem_append_left _ hf))
  have bf : BaseF S K mg := base_f pl.ok (hnw c.more) KX G fa fun n p e => by
    rw [pl.ats, List.getElem?_map] at e
    cases h1 : ds[n]? with
    | none => rw [h1] at e; cases e
    | some d =>
      rw [h1] at e
      cases e
      obtain ⟨fd, F⟩ := hd d (List.mem_of_getElem? h1)
      exact F.kp
  have par := pl.par
  have law := pl.law
  split at par
  · rename_i e f h1 h2
    have ps := of_decide_eq_true par
    rw [pl.ats, List.getElem?_map, h1] at law
    simp only [Option.map_some, Option.some.injEq] at law
    have hm := List.mem_of_getElem? h1
    obtain ⟨fd, F⟩ := hd e hm
    have ef : He.fAd K e.d.at_ = fa0 := by
      rw [law]
      have := He.glo_ok KX G (cd.facts (f := .glo "law") List.mem_cons_self)
      rw [hmg] at this
      cases this
      rfl
    obtain ⟨ln, ck⟩ := allB_at pl.chk
    have ck := ck li e f h1 h2
    unfold oneB at ck
    rw [Bool.and_eq_true] at ck
    have ck1 := ck.1
    unfold fnB at ck1
    simp only [Bool.and_eq_true] at ck1
    have sc := C8.fnScope_by ck1.1.1.1
    refine ⟨fd, (tfOf ds).map (He.cT K), spF S.N K (tabT ds K) (TT.Phi S.P (k + 1) li), fun p hp => ?_, fun p hp => ?_, fun p hp => ?_, fun s u => ?_, fun H a ns hl hb ht hs => ?_, fun base KB GB tb => ?_⟩
    · obtain ⟨q, hq, rfl⟩ := List.mem_map.mp hp
      exact c.empty q hq
    · obtain ⟨q, hq, rfl⟩ := List.mem_map.mp hp
      exact c.out q hq
    · obtain ⟨q, hq, rfl⟩ := List.mem_map.mp hp
      exact PySem.W.codeHd_of_K KX (c.hd q hq)
    · have := F.bindsA (ps := e.N.take f.np) (fun kV doc pm an cdv ct us hl => bind_plain ck.2 (sc.nd.sublist (List.take_sublist _ _)) hl) s [u] (by rw [ps]; rfl)
      rw [ps] at this
      exact this
    · obtain ⟨s, e2⟩ := run ns hl hb
      refine ⟨[], [.d (.rol (ns.map .int))], [], .cons (RepD.rol ?_ (rep_ints ns)) .nil, ⟨rfl, fun l k a h1 => by simp at h1, fun a h1 => by simp at h1, fun l m h1 => by simp at h1, fun p hp => ?_⟩, ?_⟩
      · rcases hs with hs | hs
        · exact .inl ⟨by simp, hs⟩
        · exact .inr hs
      · obtain ⟨e', hm', rfl⟩ := List.mem_map.mp hp
        exact LamX.TabS.nil (ht _ (List.mem_map.mpr ⟨e'.d.at_, List.mem_map.mpr ⟨e', hm', rfl⟩, rfl⟩))
      · rw [e2]
        intro L' H' p z v rv
        exact RepD.bl_inv rv
    · have := top_ok (k := k) (T := tabT ds K) (base := base) (P := l.prog) (w := w) bf pl.ats pl.chk hd (fun e' he' hl => ⟨lamD_of (hex c.more) tb he' hl, by
        rcases ask with a | a
        · rw [a e' he'] at hl; cases hl
        · exact a base KB GB⟩) h1 h2 F
      rw [ef, ps] at this
      exact this
  · cases par
end
end TS

set_option maxRecDepth 100000
/-! A def called while one known exception is handled. -/
namespace TS
open PySem PySem.Spec PyProof.Rows L2 L2H
/-- what a def promises there; p is the exception -/
structure HotRun (P : Program) (w : World) (K : PySem.W.Frag) (mg : Str → Option Value) (base : Heap) (k : Nat) (f : Addr) (fd : FuncData) (ps : List Str) (p : Addr × Obj) (sp : Sp) : Prop where
  len : ∀ vs H Q E, sp vs H Q E → vs.length = ps.length
  run : ∀ (A : Around) (outer : List Env) (s : Shared) (H : Hp) (args : Args) (us : List Value) (vs : List V) (Q : VK) (E : XK), RoomH k A → PinOk outer H s p → Env0 P w K mg base A outer s H → BindsTo s fd args (ps.zip us) → Vals vs us → sp vs H Q E →
    codeAny (model P w) A (.call (.ref f) args) (CR C8.CX0 outer P w H s Q E) s
section
variable {P : Program} {w : World} {K : PySem.W.Frag} {mg : Str → Option Value} {base : Heap}
theorem hot_of {k : Nat} {f : Addr} {name qual : Str} {params : Arguments} {body : List Stmt} {scope : Scope} {dV kV doc pm cdv ct oc : Value} {an od : Option Addr} {osl : Array (Option Value)} {N ps : List Str} {p : Addr × Obj} {sp : Sp}
    (lk : K.lookup f = some ⟨oc, od, .func (PySem.W.fnOf name qual params body scope dV kV doc pm an cdv ct), osl⟩) (hcd : PySem.W.codeIn K cdv qual = true) (S : FnScope N ps scope) (len : ∀ vs H Q E, sp vs H Q E → vs.length = ps.length)
    (hb : ∀ (A : Around) (outer : List Env) (s : Shared) (H : Hp) (vs : List V) (Q : VK) (E : XK), RoomH k (A.deeper (envOfC qual scope s.heap.objs.size f cdv)) → sp vs H Q E →
      ∃ t, PSs (cxH C8.CX0 P w K mg base N qual scope f cdv A outer s H E p).nox body t ∧ t { nx := fun _ H' => Q .non H', rt := Q } (L2.start N vs) H) :
    HotRun P w K mg base (k + 1) f (PySem.W.fnOf name qual params body scope dV kV doc pm an cdv ct) ps p sp where
  len := len
  run := by
    intro A outer s H args us vs Q E room pin e0 bd rv hsp
    have ln := len _ _ _ _ hsp
    have kin : K.In s.heap := e0.mod.kin.keeps fun b o e => (e0.bs b o e).1
    have nolim : s.heap.NoLimit := e0.mod.nolimit.keeps fun b o e => (e0.bs b o e).1
    have parK : ∀ y ∈ ps.zip us, scope.names.lookup y.1 = some .local ∨ (scope.names.lookup y.1 = some .cell ∧ ((cellsFrom (s.heap.objs.size + 1) scope.names []).lookup y.1).isSome = true) := by
      rintro ⟨n, v⟩ m
      cases S.par n (List.of_mem_zip m).1 with
      | inl c => exact .inl c
      | inr c => exact .inr ⟨c, PySem.W.cellsFrom_some _ _ _ (.inl c)⟩
    apply codeAny_call_function room.depth (kin _ _ lk) rfl S.co S.gen rfl (PySem.W.codeRec_of kin hcd)
    apply bd
    refine wpAny_newFunctionEnv_cells S.kind parK ?_
    rintro env rfl s1 x
    refine ⟨nolim.keeps x.toInCall.keep, codeAny_func ?_⟩
    obtain ⟨t, ht, q⟩ := hb A outer s H vs Q E (room.deeper _) hsp
    have J := inv_startH (CX := C8.CX0) (E := E) S pin e0 ln rv x
    refine wpAny_mono (ht.nox.run [] s1 _ H _ J q) ?_ fun _ _ z => z
    rintro fl s' hs
    cases fl with
    | ret u =>
      obtain ⟨v, _, H', J', r', q'⟩ := hs
      exact ⟨v, H', J'.os, J'.bare, J'.base, J'.hok, r', q'⟩
    | next =>
      obtain ⟨_, H', J', q'⟩ := hs
      exact ⟨.non, H', J'.os, J'.bare, J'.base, J'.hok, rfl, q'⟩
    | brk => exact hs.elim fun _ h => h.elim fun _ h => False.elim h.2
    | cont => exact hs.elim fun _ h => h.elim fun _ h => False.elim h.2
/-- f(x), x a name, where p is handled -/
theorem pe_hot {X : Cx} {k : Nat} {f : Addr} {fd : FuncData} {ps : List Str} {p : Addr × Obj} {sp : Sp} {x : Str} {e : Expr} {q pos : Pos} {t : TA} (F : HotRun X.prog X.w X.K X.mg X.base k f fd ps p sp) (hr : RoomH k X.A) (hp : p ∈ X.pn) (hg : Gl X x) (hm : X.mg x = some (.ref f)) (hk : PySem.W.keepIn X.K (.ref f) = true) (hb : Binds X.K fd ps [])
    (ha : PA X [e] t) (hd : (x == ("__debug__" : Str)) = false) (hs : noStar e = true) : PE X (.Call (.Name x q) [e] [] pos) (fun σ H Q => t σ H fun vs H1 => sp vs H1 Q (fun _ _ _ => False)) := by
  constructor
  intro pins s σ H Q I h
  refine wpAny_Call_Name_kw (ld_glob I hg hm ?_ hd)
  refine PySem.W.callWith_K (h₀ := X.base) I.ok.mod.kin hk ?_ (star1 hs) (back_any (es := []) rfl)
  refine thn (ha.run pos pins s σ H _ I h) ?_
  rintro us s1 ⟨vs, H1, J, rv, h1⟩
  refine ⟨J.kIn, ?_⟩
  have ln : us.length = ps.length := by rw [← rv.length]; exact F.len _ _ _ _ h1
  have bd := hb s1 us J.kIn (by rw [List.append_nil]; exact ln)
  rw [List.append_nil] at bd
  have pin := J.pin p (List.mem_append_left _ hp)
  have po : PinOk X.stack H1 s1 p := ⟨pin.1, pin.2.1, fun m => (List.mem_cons.mp (J.stkSub p.1 m)).elim pin.2.2.1 pin.2.2.2.1, pin.2.2.2.2⟩
  refine wpAny_call (codeAny_mono (F.run X.A X.stack s1 H1 ⟨us, []⟩ us vs Q _ hr po J.env0 bd rv h1) ?_)
  rintro r s2 hq
  cases r with
  | error e => exact False.elim hq
  | ok fl =>
    cases fl with
    | ret u => exact J.after hq
    | next => exact False.elim hq
    | brk => exact False.elim hq
    | cont => exact False.elim hq
/-- isinstance(e, c), e the exception that is handled -/
theorem call_isP {X : Cx} {D : Addr} {p : Addr × Obj} (hp : p ∈ X.pn) (C : ExcC X.K D) (hz : Zc (.ref D) none p.2) (hf : ∃ vs, p.2.data = .fields vs) : CallR X (.builtin "isinstance") (rIsE X.K D p.1) := by
  intro pins s σ H xs us Q I r h
  obtain ⟨c, cv, b, rfl, hcv, e, q⟩ := h
  cases r with
  | cons rx rr =>
    cases rr with
    | cons rt rr =>
      cases rr
      cases rx
      have ec := hcv _ rt
      subst ec
      have hget := (I.pin p (List.mem_append_left _ hp)).1
      obtain ⟨a, oe⟩ := p
      obtain ⟨vs, hv⟩ := hf
      obtain ⟨oc, od, oda, osl⟩ := oe
      obtain ⟨h1, h2⟩ := hz
      dsimp only at h1 h2 hv hget
      subst h1 h2 hv
      have J : PySem.W.InstAt s.heap a ⟨.ref D, none, .fields vs, osl⟩ D none := ⟨hget, rfl, rfl, trivial⟩
      exact PySem.W.kia_one (PySem.W.handS_kitx_exc C.hg C.hk C.hs C.hd C.ha C.hn C.ht C.hm) I.kIn J e (fun z => nomatch z) fun tk => ⟨.bl b, H, I.kept (t' := tk) fun _ _ z => z, rfl, q⟩
end
end TS

set_option maxRecDepth 100000
set_option maxHeartbeats 1000000
/-! The def that tells an error's word, run while the error is handled. -/
namespace TS
open PySem PySem.Spec PyProof.Rows L2 L2H
abbrev has0 (a : Addr) (σ : L2.St) : Prop := σ[0]? = some (some (.ref a))
section
variable {N : Nm} {X : Cx} {T : List (Addr × Str)} {a : Addr} {K : PySem.W.Frag}
def cX (N : Nm) (K : PySem.W.Frag) (T : List (Addr × Str)) (a : Addr) (f : TT.Env → Sto → TT.R W) : TE := fun σ H Q => has0 a σ ∧ cE N K T Wx0 f σ H Q
def cXA (N : Nm) (K : PySem.W.Frag) (T : List (Addr × Str)) (a : Addr) (f : TT.Env → Sto → TT.R (List W)) : TA := fun σ H Q => has0 a σ ∧ cA N K T Wx0 f σ H Q
def cXT (N : Nm) (K : PySem.W.Frag) (T : List (Addr × Str)) (a : Addr) (f : TT.Env → Sto → TT.R Bool) : TT := fun σ H Q => has0 a σ ∧ cT N K T Wx0 f σ H Q
theorem cE_mono {f : TT.Env → Sto → TT.R W} {σ : L2.St} {H : Hp} {Q Q' : VK} (h : cE N K T Wx0 f σ H Q) (q : ∀ v H1, Q v H1 → Q' v H1) : cE N K T Wx0 f σ H Q' := by
  obtain ⟨L, e, s, re, rs, o⟩ := h
  exact ⟨L, e, s, re, rs, o.mono (fun w L' H' s' _ _ h v rv => q v H' (h v rv)) fun _ _ z => z⟩
theorem x_e {e : Expr} {f : TT.Env → Sto → TT.R W} (h : PE X e (cE N X.K T Wx0 f)) : PE X e (cX N X.K T a f) := PEw h fun σ H Q q => q.2
theorem x_t {e : Expr} {f : TT.Env → Sto → TT.R Bool} (h : PT X e (cT N X.K T Wx0 f)) : PT X e (cXT N X.K T a f) := PTw h fun σ H Q q => q.2
/-- what isinstance says of the handled error and the class of a name -/
structure IsAt (X : Cx) (D a : Addr) (cn : Str) (b : Bool) : Prop where
  gl : Gl X cn
  db : (cn == ("__debug__" : Str)) = false
  cl : (∃ C : Addr, X.mg cn = some (.ref C) ∧ PySem.W.kitOne X.K (.ref D) (.ref C) = some b) ∨ (∃ q : String, X.mg cn = none ∧ bootBuiltins cn = some (.type q) ∧ cn ≠ "__name__" ∧ PySem.W.kitOne X.K (.ref D) (.type q) = some b)
theorem x_is {D : Addr} {ev cn : Str} {b : Bool} {p q r pos : Pos} (c : TT.Cxt) (hi : CallR X (.builtin "isinstance") (rIsE X.K D a)) (hb : Blt X "isinstance" (.builtin "isinstance")) (h0 : X.N[0]? = some ev) (hv : Vis X.env.scope ev) (hn : nm1 ev = true) (h : IsAt X D a cn b) :
    PE X (.Call (.Name "isinstance" p) [.Name ev q, .Name cn r] [] pos) (cX N X.K T a (TT.evE c (.k (.bl b)))) := by
  have pv := pe_var (pos := q) h0 hv (nm_of hn).1 (nm_of hn).2
  rcases h.cl with ⟨C, m, k⟩ | ⟨ty, m, bt, nn, k⟩
  · have pc := pe_glob (pos := r) (v := V.ref C) h.gl m rfl h.db
    refine PEw (pe_callB hi hb.gl hb.no hb.at_ (pa_cons pv (pa_cons pc pa_nil (star1 rfl)) (star1 rfl)) hb.n1 hb.n2 (star1 rfl) (back_any (es := [.Name cn r]) rfl)) fun σ H Q ⟨z, L, e, s, re, rs, o⟩ => ?_
    exact ⟨_, z, V.ref C, .ref C, b, rfl, fun u hu => hu, k, o.here rs _ (.bl b)⟩
  · have pc : PE X (.Name cn r) (tC (.ty ty)) := pe_bltn h.gl m bt rfl nn h.db
    refine PEw (pe_callB hi hb.gl hb.no hb.at_ (pa_cons pv (pa_cons pc pa_nil (star1 rfl)) (star1 rfl)) hb.n1 hb.n2 (star1 rfl) (back_any (es := [.Name cn r]) rfl)) fun σ H Q ⟨z, L, e, s, re, rs, o⟩ => ?_
    exact ⟨_, z, V.ty ty, .type ty, b, rfl, fun u hu => hu, k, o.here rs _ (.bl b)⟩
/-! ### lists -/
def esB : List Bool → TT.Es
  | [] => .nil
  | b :: r => .cons (.k (.bl b)) (esB r)
def esS : List Str → TT.Es
  | [] => .nil
  | b :: r => .cons (.k (.str b)) (esS r)
inductive IsL (X : Cx) (D a : Addr) (ev : Str) : List Expr → List Bool → Prop
  | nil : IsL X D a ev [] []
  | cons {cn : Str} {b : Bool} {p q r pos : Pos} {es : List Expr} {bs : List Bool} (h : IsAt X D a cn b) (t : IsL X D a ev es bs) : IsL X D a ev (.Call (.Name "isinstance" p) [.Name ev q, .Name cn r] [] pos :: es) (b :: bs)
theorem x_isL {D : Addr} {ev : Str} (c : TT.Cxt) (hi : CallR X (.builtin "isinstance") (rIsE X.K D a)) (hb : Blt X "isinstance" (.builtin "isinstance")) (h0 : X.N[0]? = some ev) (hv : Vis X.env.scope ev) (hn : nm1 ev = true) :
    ∀ {es : List Expr} {bs : List Bool}, IsL X D a ev es bs → PA X es (cXA N X.K T a (TT.evEs c (esB bs)))
  | _, _, .nil => PAw pa_nil fun σ H Q ⟨z, L, e, s, re, rs, o⟩ => o.here rs _ .nil
  | _, _, .cons (b := b) (bs := bs) h t => PAw (pa_cons (x_is (N := N) (T := T) c hi hb h0 hv hn h) (x_isL c hi hb h0 hv hn t) (star1 rfl)) fun σ H Q ⟨z, L, e, s, re, rs, o⟩ => by
    refine ⟨z, L, e, s, re, rs, ?_⟩
    simp only [TT.evE]
    intro L1 H1 p1 z1 v rv
    simp only [esB, TT.evEs, TT.evE, TT.R.bind_ok] at o
    refine ⟨z, L1, e, s, re.pst p1, z1, (Out.bind (o.step p1)).mono (fun ws L2 H2 s2 p2 z2 o2 vs rvs => ?_) fun _ _ x => x⟩
    exact o2.here z2 (v :: vs) (.cons (RepW.pst (w := .d (.bl b)) p2 rv) rvs)
theorem x_lst {es : List Expr} {xs : TT.Es} {pos : Pos} (c : TT.Cxt) (h : PA X es (cXA N X.K T a (TT.evEs c xs))) (hl : xs.len ≤ 1000) : PE X (.List es pos) (cX N X.K T a (TT.evE c (.lst true xs))) :=
  PEw (pe_lst h) fun σ H Q ⟨z, L, e, s, re, rs, o⟩ => by
    simp only [TT.evE] at o
    refine ⟨z, evs_then c re rs o fun ws L1 H1 s1 vs ln p1 re1 rs1 rv o1 => ?_⟩
    cases h2 : TT.asDs ws with
    | none => rw [h2] at o1; exact False.elim o1
    | some ds =>
      rw [h2] at o1
      simp only [TT.R.of_some, TT.R.bind_ok] at o1
      have rd := asDs_rep rv h2
      exact ⟨by rw [rv.len, ln, sizeLine_eq]; omega, fun p hp => fin_fl' rs1 o1 rd hp⟩
theorem x_add {e1 e2 : Expr} {x y : TT.E} {pos : Pos} (c : TT.Cxt) (h1 : PE X e1 (cX N X.K T a (TT.evE c x))) (h2 : PE X e2 (cX N X.K T a (TT.evE c y))) : PE X (.BinOp e1 .Add e2 pos) (cX N X.K T a (TT.evE c (.op true .add (.cons x (.cons y .nil))))) := by
  rw [ev_op2]
  obtain ⟨r, ho, hr⟩ := snd_add (N := N) (X := X) (T := T)
  refine PEw (pe_op ho h1 h2) fun σ H Q ⟨z, q⟩ => ?_
  obtain ⟨L, e, s, re, rs, o⟩ := q
  exact ⟨z, cE_then re rs o fun w L1 H1 s1 v p1 re1 rs1 rv o1 => ⟨z, cE_then re1 rs1 o1 fun u L2 H2 s2 y p2 re2 rs2 ru o2 => hr true L2 H2 s2 v y w u Q _ rs2 (rv.pst p2) ru o2⟩⟩
/-! ### statements -/
def cXS (N : Nm) (K : PySem.W.Frag) (T : List (Addr × Str)) (a : Addr) (F : Nat → TT.Env → Sto → TT.R FE) : TS := fun D σ H => has0 a σ ∧ cS N K T Wx0 F { D with nx := fun σ' H' => has0 a σ' → D.nx σ' H' } σ H
theorem xs_asg {c : TT.Cxt} {x : TT.E} {i : Nat} {y : Str} {e : Expr} {p pos : Pos} (hN : X.N.Nodup) (h : PE X e (cX N X.K T a (TT.evE c x))) (ht : TgNm X y (i + 1)) (hs : noComp e = true) :
    PS X (.Assign [.Name y p] e pos) (cXS N X.K T a fun n => TT.evS c n (.asg (.nm (i + 1)) x)) :=
  PSw (ps_set hN ht.at_ ht.loc h (swaps_no hs) ht.own) fun D σ H ⟨z, q⟩ => by
    have := asg_then (t := .nm (i + 1)) _ σ H q
    refine ⟨z, cE_mono this fun v H1 h1 => h1 ?_⟩
    show (σ.set (i + 1) (some v))[0]? = _
    rw [List.getElem?_set_ne (by omega)]
    exact z
theorem xs_ret {c : TT.Cxt} {x : TT.E} {e : Expr} {pos : Pos} (h : PE X e (cX N X.K T a (TT.evE c x))) : PS X (.Return (some e) pos) (cXS N X.K T a fun n => TT.evS c n (.ret x)) :=
  PSw (ps_ret h) fun D σ H ⟨z, L0, H0, L, e, s, p, re, rs, o⟩ => by
    simp only [TT.evS] at o
    exact ⟨z, sE_then p re rs o fun w L' H' s' v p0 p1 re1 rs1 rv o1 => flow_here o1 p0 rs1 v rv⟩
theorem xs_nil {c : TT.Cxt} : PSs X [] (cXS N X.K T a fun n => TT.evSs c n .nil) := PSsw pss_nil fun D σ H ⟨z, L0, H0, L, e, s, p, re, rs, o⟩ => flow_here o p rs σ re z
theorem xs_cons {c : TT.Cxt} {st : Stmt} {sts : List Stmt} {x : TT.S} {xs : TT.Ss} (h : PS X st (cXS N X.K T a fun n => TT.evS c n x)) (t : PSs X sts (cXS N X.K T a fun n => TT.evSs c n xs)) : PSs X (st :: sts) (cXS N X.K T a fun n => TT.evSs c n (.cons x xs)) :=
  PSsw (pss_cons h t) fun D σ H ⟨z, L0, H0, L, e, s, p, re, rs, o⟩ => by
    simp only [TT.evSs] at o
    refine ⟨z, L0, H0, L, e, s, p, re, rs, (Out.bind0 o).mono (fun r L' H' s' p' rs' o' => ?_) fun _ _ h => h⟩
    obtain ⟨fl, e'⟩ := r
    cases fl with
    | nx => exact fun σ' re' z' => ⟨z', L0, H0, L', e', s', p', re', rs', o'⟩
    | cnt => exact flow_here (Wx := Wx0) o' p' rs'
    | brk => exact flow_here (Wx := Wx0) o' p' rs'
    | ret w => exact flow_here (Wx := Wx0) o' p' rs'
theorem xs_ite {c : TT.Cxt} {x : TT.E} {e : Expr} {pos : Pos} {sa sb : List Stmt} {ya yb : TT.Ss} (h : PT X e (cXT N X.K T a (asT (TT.evE c x)))) (ha : PSs X sa (cXS N X.K T a fun n => TT.evSs c n ya)) (hb : PSs X sb (cXS N X.K T a fun n => TT.evSs c n yb)) :
    PS X (.If e sa sb pos) (cXS N X.K T a fun n => TT.evS c n (.ite x ya yb)) := PSw (ps_if h ha hb) fun D σ H ⟨z, L0, H0, L, e, s, p, re, rs, o⟩ => by
  simp only [TT.evS] at o
  rw [asT_bind (k := fun b s => if b then TT.evSs c L0.length ya e s else TT.evSs c L0.length yb e s) fun w s => by
    cases TT.asB w with
    | none => rfl
    | some b => cases b <;> rfl] at o
  refine ⟨z, sT_then p re rs o fun w L' H' s' p0 p1 re1 rs1 o1 => ?_⟩
  cases w with
  | true => exact ⟨z, L0, H0, L', e, s', p0, re1, rs1, o1⟩
  | false => exact ⟨z, L0, H0, L', e, s', p0, re1, rs1, o1⟩
end
end TS

set_option maxRecDepth 100000
set_option maxHeartbeats 4000000
/-! The asking def and the one that tells the word: from their texts. -/
namespace TS
open PySem PySem.Spec PyProof.Rows L2 L2H
/-- what the text of the telling def says -/
structure WD where
  m : Str
  n : Str
  c1 : List Str
  c2 : List Str
  c3 : List Str
  c4 : List Str
  v : Str
  oth : Str
  s1 : List Str
  s2 : List Str
  deriving DecidableEq
def clsL (ev : Str) : List Expr → Option (List Str)
  | [] => some []
  | .Call (.Name i _) [.Name e _, .Name c _] [] _ :: r => if i = "isinstance" ∧ e = ev then (clsL ev r).map (c :: ·) else none
  | _ => none
def strL : List Expr → Option (List Str)
  | [] => some []
  | .Constant (.str x) _ _ :: r => (strL r).map (x :: ·)
  | _ => none
def isSum (m : Str) : Stmt → Option (List Expr)
  | .Assign [.Name m1 _] (.BinOp (.Name m2 _) .Add (.List l _) _) _ => if m1 = m ∧ m2 = m then some l else none
  | _ => none
def isSet : Stmt → Option (Str × List Expr)
  | .Assign [.Name m _] (.List l _) _ => some (m, l)
  | _ => none
def isMeth (m f : Str) : Expr → Bool
  | .Call (.Attribute (.Name x _) g ap) [.Constant (.bool true) _ _] [] cp => decide (x = m) && decide (g = f) && (ap.endLine == cp.line)
  | _ => false
def isEnd (n m : Str) : Stmt → Option (List Expr)
  | .Return (some (.Subscript (.BinOp (.Name x _) .Add (.List l _) _) i _)) _ => if x = n ∧ isMeth m "index" i = true then some l else none
  | _ => none
def isIf (ev m : Str) : Stmt → Option (Str × Str)
  | .If (.BoolOp .Or [.UnaryOp .Not (.Call (.Name i _) [.Name e _, .Name c _] [] _) _, .Compare k [.NotEq] [.Constant (.int 1) _ _] _] _) [.Return (some (.Constant (.str oth) _ _)) _] [] _ => if i = "isinstance" ∧ e = ev ∧ isMeth m "count" k = true then some (c, oth) else none
  | _ => none
def whD (ev : Str) : List Stmt → Option WD
  | [a1, a2, a3, a4, i, b, r] => (isSet a1).bind fun (m, l1) => (clsL ev l1).bind fun c1 => (isSum m a2).bind fun l2 => (clsL ev l2).bind fun c2 => (isSum m a3).bind fun l3 => (clsL ev l3).bind fun c3 => (isSum m a4).bind fun l4 => (clsL ev l4).bind fun c4 =>
      (isIf ev m i).bind fun (v, oth) => (isSet b).bind fun (n, l5) => (strL l5).bind fun s1 => (isEnd n m r).bind fun l6 => (strL l6).bind fun s2 => some ⟨m, n, c1, c2, c3, c4, v, oth, s1, s2⟩
  | _ => none
/-- .. in the small language, for an error of which isinstance says b -/
def wB (d : WD) (b : Str → Bool) : TT.Ss :=
  .cons (.asg (.nm 1) (.lst true (esB (d.c1.map b)))) (.cons (.asg (.nm 1) (.op true .add (.cons (.v 1) (.cons (.lst true (esB (d.c2.map b))) .nil)))) (.cons (.asg (.nm 1) (.op true .add (.cons (.v 1) (.cons (.lst true (esB (d.c3.map b))) .nil)))) (.cons (.asg (.nm 1) (.op true .add (.cons (.v 1) (.cons (.lst true (esB (d.c4.map b))) .nil))))
    (.cons (.ite (.bop false (.cons (.not (.k (.bl (b d.v)))) (.cons (.op true .ne (.cons (.bm true .count (.v 1) (.cons (.k (.bl true)) .nil)) (.cons (.k (.int 1)) .nil))) .nil))) (.cons (.ret (.k (.str d.oth))) .nil) .nil)
      (.cons (.asg (.nm 2) (.lst true (esS d.s1))) (.cons (.ret (.op true .ix (.cons (.op true .add (.cons (.v 2) (.cons (.lst true (esS d.s2)) .nil))) (.cons (.bm true .index (.v 1) (.cons (.k (.bl true)) .nil)) .nil)))) .nil))))))
section
variable {N : Nm} {X : Cx} {T : List (Addr × Str)} {a D : Addr}
theorem cls_isL {ev : Str} {b : Str → Bool} : ∀ {es : List Expr} {cs : List Str}, clsL ev es = some cs → (∀ c ∈ cs, IsAt X D a c (b c)) → IsL X D a ev es (cs.map b)
  | [], cs, h, _ => by
    simp only [clsL, Option.some.injEq] at h
    subst h
    exact .nil
  | e :: es, cs, h, q => by
    unfold clsL at h
    split at h
    · rename_i heq
      cases heq
    · rename_i heq
      cases heq
      split at h
      · rename_i z
        obtain ⟨rfl, rfl⟩ := z
        rw [Option.map_eq_some_iff] at h
        obtain ⟨r, h1, rfl⟩ := h
        exact .cons (q _ (by simp)) (cls_isL h1 fun c hc => q c (by simp [hc]))
      · cases h
    · cases h
theorem str_es {Wx : WX} (c : TT.Cxt) : ∀ {es : List Expr} {ss : List Str}, strL es = some ss → PA X es (cA N X.K T Wx (TT.evEs c (esS ss)))
  | [], ss, h => by
    simp only [strL, Option.some.injEq] at h
    subst h
    exact pa_n c
  | e :: es, ss, h => by
    unfold strL at h
    split at h
    · rename_i heq
      cases heq
    · rename_i heq
      cases heq
      rw [Option.map_eq_some_iff] at h
      obtain ⟨r, h1, rfl⟩ := h
      exact pa_c c (pe_k (.str _) c) (str_es c h1) rfl
    · cases h
theorem len_esB : ∀ l : List Bool, (esB l).len = l.length
  | [] => rfl
  | b :: r => by simp [esB, TT.Es.len, len_esB r]
theorem len_esS : ∀ l : List Str, (esS l).len = l.length
  | [] => rfl
  | b :: r => by simp [esS, TT.Es.len, len_esS r]
theorem isMeth_ok {m f : Str} {e : Expr} (h : isMeth m f e = true) : ∃ p ap k q cp, e = .Call (.Attribute (.Name m p) f ap) [.Constant (.bool true) k q] [] cp ∧ (ap.endLine == cp.line) = true := by
  unfold isMeth at h
  split at h
  · simp only [Bool.and_eq_true, decide_eq_true_eq] at h
    obtain ⟨⟨rfl, rfl⟩, h⟩ := h
    exact ⟨_, _, _, _, _, rfl, h⟩
  · cases h
/-- small: the lists are short -/
def WD.ok (d : WD) : Bool := nm1 d.m && nm1 d.n && decide (d.c1.length ≤ 100) && decide (d.c2.length ≤ 100) && decide (d.c3.length ≤ 100) && decide (d.c4.length ≤ 100) && decide (d.s1.length ≤ 100) && decide (d.s2.length ≤ 100)
theorem asB1 {r : TT.R W} : ((r.bind fun x s => (TT.R.of (TT.asB x) s).bind fun b s => .ok (.d (.bl b)) s).bind fun w s => TT.R.of (TT.asB w) s) = r.bind fun w s => TT.R.of (TT.asB w) s := by
  cases r with
  | ok x s =>
    simp only [TT.R.bind_ok]
    cases TT.asB x <;> rfl
  | err _ _ => rfl
  | no => rfl
theorem asB_bl (b : Bool) : TT.asB (.d (.bl b)) = some b := rfl
theorem pt_is {e : Expr} {bb : Bool} (c : TT.Cxt) (h : PE X e (cX N X.K T a (TT.evE c (.k (.bl bb))))) (hp : plainTest e = true) : PT X e (cXT N X.K T a (asT (TT.evE c (.k (.bl bb))))) :=
  PTw (pt_val h (test_plain hp)) fun σ H Q ⟨z, L, e, s, re, rs, o⟩ => ⟨z, L, e, s, re, rs, by
    simp only [asT, TT.evE, TT.R.bind_ok, asB_bl, TT.R.of_some] at o ⊢
    exact fun L1 H1 p1 z1 v rv => ⟨bb, RepD.bl_inv rv, o L1 H1 p1 z1⟩⟩
theorem pt_or {e1 e2 : Expr} {bb : Bool} {y : TT.E} {p1 p2 : Pos} (c : TT.Cxt) (h1 : PT X e1 (cXT N X.K T a (asT (TT.evE c (.k (.bl bb)))))) (h2 : PT X e2 (cXT N X.K T a (asT (TT.evE c y)))) :
    PT X (.BoolOp .Or [.UnaryOp .Not e1 p1, e2] p2) (cXT N X.K T a (asT (TT.evE c (.bop false (.cons (.not (.k (.bl bb))) (.cons y .nil)))))) :=
  PTw (pw_or (pt_not h1) (pw_or1 h2)).pt fun σ H Q ⟨z, L, e, s, re, rs, o⟩ => by
    refine ⟨z, L, e, s, re, rs, ?_⟩
    simp only [asT, TT.evE, TT.evB, TT.R.bind_ok, asB_bl, TT.R.of_some] at o ⊢
    intro L1 H1 q1 z1
    cases bb with
    | false => exact o L1 H1 q1 z1
    | true =>
      simp only [Bool.not_true, Bool.false_eq_true, if_false, if_true] at o ⊢
      refine ⟨z, L1, e, s, re.pst q1, z1, ?_⟩
      have o' := o.step q1
      rw [asB1] at o'
      exact o'
theorem which_body {ev : Str} {body : List Stmt} {d : WD} {b : Str → Bool} (c : TT.Cxt) (hd : whD ev body = some d) (ok : d.ok = true) (nd : X.N.Nodup) (h0 : X.N[0]? = some ev) (hv : Vis X.env.scope ev) (hn : nm1 ev = true) (hm : TgNm X d.m 1) (hnn : TgNm X d.n 2) (vm : Vis X.env.scope d.m) (vn : Vis X.env.scope d.n)
    (hu : X.A.units + 64 < cLine) (hu1 : X.A.units + 65 < cLine) (hb : Blt X "isinstance" (.builtin "isinstance")) (hi : CallR X (.builtin "isinstance") (rIsE X.K D a)) (q : ∀ cn ∈ d.v :: (d.c1 ++ d.c2 ++ d.c3 ++ d.c4), IsAt X D a cn (b cn)) : PSs X body (cXS N X.K T a fun n => TT.evSs c n (wB d b)) := by
  unfold whD at hd
  split at hd
  · rename_i a1 a2 a3 a4 i bb r
    simp only [Option.bind_eq_some_iff, Prod.exists] at hd
    obtain ⟨m, l1, e1, c1, f1, l2, e2, c2, f2, l3, e3, c3, f3, l4, e4, c4, f4, v, oth, e5, n, l5, e6, s1, f5, l6, e7, s2, f6, ed⟩ := hd
    cases ed
    unfold WD.ok at ok
    simp only [Bool.and_eq_true, decide_eq_true_eq] at ok
    obtain ⟨⟨⟨⟨⟨⟨⟨o1, o2⟩, o3⟩, o4⟩, o5⟩, o6⟩, o7⟩, o8⟩ := ok
    simp only [] at q hm hnn vm vn
    have pm : ∀ p, PE X (.Name m p) (cE N X.K T Wx0 (TT.evE c (.v 1))) := fun p => pe_v hm.at_ vm (nm_of o1).1 (nm_of o1).2 c
    have pn : ∀ p, PE X (.Name n p) (cE N X.K T Wx0 (TT.evE c (.v 2))) := fun p => pe_v hnn.at_ vn (nm_of o2).1 (nm_of o2).2 c
    have lst : ∀ {l : List Expr} {cs : List Str} {p : Pos}, clsL ev l = some cs → (∀ cn ∈ cs, IsAt X D a cn (b cn)) → cs.length ≤ 100 → PE X (.List l p) (cX N X.K T a (TT.evE c (.lst true (esB (cs.map b))))) := fun h1 h2 h3 =>
      x_lst c (x_isL c hi hb h0 hv hn (cls_isL h1 h2)) (by rw [len_esB, List.length_map]; omega)
    have sum : ∀ {st : Stmt} {l : List Expr} {cs : List Str}, isSum m st = some l → clsL ev l = some cs → (∀ cn ∈ cs, IsAt X D a cn (b cn)) → cs.length ≤ 100 → PS X st (cXS N X.K T a fun n => TT.evS c n (.asg (.nm 1) (.op true .add (.cons (.v 1) (.cons (.lst true (esB (cs.map b))) .nil))))) := by
      intro st l cs h1 h2 h3 h4
      unfold isSum at h1
      split at h1
      · split at h1
        · rename_i z
          obtain ⟨rfl, rfl⟩ := z
          cases h1
          exact xs_asg nd (x_add c (x_e (pm _)) (lst h2 h3 h4)) hm rfl
        · cases h1
      · cases h1
    have g1 : ∀ cn ∈ c1, IsAt X D a cn (b cn) := fun cn h => q cn (by simp [h])
    have g2 : ∀ cn ∈ c2, IsAt X D a cn (b cn) := fun cn h => q cn (by simp [h])
    have g3 : ∀ cn ∈ c3, IsAt X D a cn (b cn) := fun cn h => q cn (by simp [h])
    have g4 : ∀ cn ∈ c4, IsAt X D a cn (b cn) := fun cn h => q cn (by simp [h])
    refine xs_cons ?_ (xs_cons (sum e2 f2 g2 o4) (xs_cons (sum e3 f3 g3 o5) (xs_cons (sum e4 f4 g4 o6) (xs_cons ?_ (xs_cons ?_ (xs_cons ?_ xs_nil))))))
    · unfold isSet at e1
      split at e1
      · simp only [Option.some.injEq, Prod.mk.injEq] at e1
        obtain ⟨rfl, rfl⟩ := e1
        exact xs_asg nd (lst f1 g1 o3) hm rfl
      · cases e1
    · unfold isIf at e5
      split at e5
      · split at e5
        · rename_i z
          obtain ⟨rfl, rfl, z⟩ := z
          simp only [Option.some.injEq, Prod.mk.injEq] at e5
          obtain ⟨rfl, rfl⟩ := e5
          obtain ⟨p, ap, k, qq, cp, rfl, hl⟩ := isMeth_ok z
          refine xs_ite ?_ (xs_cons (xs_ret (x_e (pe_k (.str _) c))) xs_nil) xs_nil
          refine pt_or c (pt_is c (x_is c hi hb h0 hv hn (q _ List.mem_cons_self)) rfl) (x_t ?_)
          rw [ev_op2]
          exact pt_cp (snd_ne hu) (pe_cnt c (pm _) (pa_c c (pe_k (.bl true) c) (pa_n c) rfl) rfl hl rfl) (pe_k (.int 1) c) rfl
        · cases e5
      · cases e5
    · unfold isSet at e6
      split at e6
      · simp only [Option.some.injEq, Prod.mk.injEq] at e6
        obtain ⟨rfl, rfl⟩ := e6
        exact xs_asg nd (x_e (pe_ls c (str_es c f5) (by rw [len_esS]; exact Nat.le_trans o7 (by decide)))) hnn rfl
      · cases e6
    · unfold isEnd at e7
      split at e7
      · split at e7
        · rename_i z
          obtain ⟨rfl, z⟩ := z
          cases e7
          obtain ⟨p, ap, k, qq, cp, rfl, hl⟩ := isMeth_ok z
          refine xs_ret (x_e ?_)
          rw [ev_op2]
          refine pe_item snd_ix ?_ (pe_idx c hu1 (pm _) (pa_c c (pe_k (.bl true) c) (pa_n c) rfl) rfl hl rfl) rfl
          rw [ev_op2]
          exact pe_bin snd_add (pn _) (pe_ls c (str_es c f6) (by rw [len_esS]; exact Nat.le_trans o8 (by decide)))
        · cases e7
      · cases e7
  · cases hd
end
/-! ### the telling def, run -/
def spW (T : List (Addr × Str)) (a : Addr) (z : Str) : Sp := fun vs H Q _ => vs = [.ref a] ∧ LamX.Tabs T H ∧ ∀ H', LamX.ExtN H H' → LamX.Tabs T H' → Q (.str z) H'
abbrev cxt0 : TT.Cxt := ⟨⟨[], [], [], []⟩, fun _ _ _ _ => .no⟩
/-- what isinstance says, by the module -/
structure IsG (K : PySem.W.Frag) (mg : Str → Option Value) (sc : Scope) (D : Addr) (cn : Str) (b : Bool) : Prop where
  gl : glB sc cn = true
  db : nm1 cn = true
  cl : (∃ C : Addr, mg cn = some (.ref C) ∧ PySem.W.kitOne K (.ref D) (.ref C) = some b) ∨ (∃ q : String, mg cn = none ∧ bootBuiltins cn = some (.type q) ∧ cn ≠ "__name__" ∧ PySem.W.kitOne K (.ref D) (.type q) = some b)
theorem gl_of {X : Cx} {sc : Scope} {x : Str} (e : X.env.scope = sc) (h : glB sc x = true) : Gl X x := by
  unfold glB at h
  split at h
  · rename_i q
    show X.env.scope.names.lookup x = _
    rw [e]; exact q
  · cases h
theorem which_run {P : Program} {w : World} {K : PySem.W.Frag} {mg : Str → Option Value} {base : Heap} {N : Nm} {T : List (Addr × Str)} {d : He.DefD} {ev z : Str} {wd : WD} {b : Str → Bool} {f D : Addr} {fd : FuncData} {dvs : List L2.V} {kws : List (Str × L2.V)} {p : Addr × Obj} {k : Nat} {e' : TT.Env} {s' : Sto}
    (Fd : FunD K d.name d.qual d.params d.body d.scope dvs kws f fd) (hd : whD ev d.body = some wd) (ok : wd.ok = true) (sc : C8.scC [ev, wd.m, wd.n] [ev] d.scope = true) (l0 : visB d.scope ev = true) (l1 : d.scope.names.lookup wd.m = some .local) (l2 : d.scope.names.lookup wd.n = some .local) (hn : nm1 ev = true)
    (g0 : glB d.scope "isinstance" = true) (m0 : mg "isinstance" = none) (is : ∀ cn ∈ wd.v :: (wd.c1 ++ wd.c2 ++ wd.c3 ++ wd.c4), IsG K mg d.scope D cn (b cn)) (C : ExcC K D) (hz : Zc (.ref D) none p.2) (hf : ∃ vs, p.2.data = .fields vs)
    (run : TT.evSs cxt0 0 (wB wd b) [none, none, none] [] = .ok (.ret (.d (.str z)), e') s') : HotRun P w K mg base (k + 1) f fd [ev] p (spW T p.1 z) := by
  have SC := C8.fnScope_by sc
  obtain ⟨oc, od, dV, kV, doc, pm, an, cdv, ct, osl, rfl, lk, hcd, _, _⟩ := Fd.ex
  refine hot_of lk hcd SC (fun vs H Q E h => by rw [h.1]; rfl) fun A outer s H vs Q E room ⟨hvs, ht, hq⟩ => ?_
  subst hvs
  let X : Cx := (cxH C8.CX0 P w K mg base [ev, wd.m, wd.n] d.qual d.scope f cdv A outer s H E p).nox
  have hu : X.A.units + 64 < cLine := by
    have := room.un
    show (A.deeper _).units + 64 < cLine
    omega
  have hu1 : X.A.units + 65 < cLine := by
    have := room.un
    show (A.deeper _).units + 65 < cLine
    omega
  have bi : Blt X "isinstance" (.builtin "isinstance") := ⟨gl_of rfl g0, m0, rfl, by decide, by decide⟩
  have ism : ∀ cn ∈ wd.v :: (wd.c1 ++ wd.c2 ++ wd.c3 ++ wd.c4), IsAt X D p.1 cn (b cn) := fun cn h => ⟨gl_of rfl (is cn h).gl, (nm_of (is cn h).db).1, (is cn h).cl⟩
  have body := which_body (N := N) (X := X) (T := T) (a := p.1) cxt0 hd ok SC.nd rfl (vis_of l0) hn ⟨rfl, .inl l1, .inl rfl⟩ ⟨rfl, .inl l2, .inl rfl⟩ (.inl l1) (.inl l2) hu hu1 bi (call_isP (X := X) (List.mem_cons_self) C hz hf) ism
  refine ⟨_, body, rfl, [], H, [], [none, none, none], [], Pst.refl _ _, ⟨rfl, fun i u h => ?_⟩, ⟨rfl, fun l k a h => by simp at h, fun a h => by simp at h, fun l m h => by simp at h, ht⟩, ?_⟩
  · match i, h with
    | 0, h => simp at h
    | 1, h => simp at h
    | 2, h => simp at h
    | (i + 3), h => simp at h
  · show Out N K T [] H _ _ (TT.evSs cxt0 0 (wB wd b) [none, none, none] [])
    rw [run]
    intro L' H' ps rs v rv
    have ev' := RepD.str_inv rv
    subst ev'
    exact hq H' (fun c o h q => ps.fr c o h (by simp) q) rs.tabs
/-! ### the asking def -/
def askD : List Stmt → Option (Str × Str × Str × Str)
  | [.Try [.Return (some (.Call (.Name a _) [] [] _)) _] [.ExceptHandler (some (.Name x _)) (some e) [.Return (some (.Call (.Name wn _) [.Name e2 _] [] _)) _] _] [] [] _] => if e2 = e then some (a, x, e, wn) else none
  | _ => none
theorem asked_gives {X : Cx} {N : Nm} {T : List (Addr × Str)} {ws : List (Nat × Str)} {bg : List Stmt} {a xh e wn x : Str} {q : Str} {sg : Scope} {g CS fW : Addr} {cdg : Value} {fdW : FuncData} {ev : Str} {k : Nat} (hb : askD bg = some (a, xh, e, wn)) (nd : [a, e].Nodup)
    (hl : sg.names.lookup e = some .local) (kd : sg.kind = .function) (ge : glB sg xh = true) (nx : nm1 xh = true) (mx : X.mg xh = some (.ref CS)) (gw : glB sg wn = true) (nw : nm1 wn = true) (ne : nm1 e = true) (mw : X.mg wn = some (.ref fW)) (kw : PySem.W.keepIn X.K (.ref fW) = true) (bw : Binds X.K fdW [ev] [])
    (exm : ∀ y z, ws.lookup y = some z → PySem.W.exmOne X.K (.ref (N.ea X.K y)) (.ref CS) = some true)
    (run : ∀ y z, ws.lookup y = some z → ∀ p : Addr × Obj, Zc (.ref (N.ea X.K y)) none p.2 → (∃ vs, p.2.data = .fields vs) → HotRun X.prog X.w X.K X.mg X.base k fW fdW [ev] p (spW T p.1 z))
    (rm : ∀ (s : Shared) (hd : Option Value), RoomH k ((X.A.deeper (envOfC x sg s.heap.objs.size g cdg)).mark hd)) : LamX.GivesTo X [a, e] x sg g cdg bg a q (TTask N X.K T ws) := by
  intro f c' s H Q tl act hc h
  unfold askD at hb
  split at hb
  · rename_i a1 q1 q2 q3 x1 q4 e1 wn1 q5 e2 q6 q7 q8 q9 q10
    split at hb
    · rename_i ee
      subst ee
      simp only [Option.some.injEq, Prod.mk.injEq] at hb
      obtain ⟨rfl, rfl, rfl, rfl⟩ := hb
      let Z : Cx := (cxOf C8.CX0 X.prog X.w X.K X.mg X.base [a1, e2] x sg g cdg X.A X.stack s H C8.E0).nox
      refine ⟨_, pss_one (ps_try_as (X := Z) (c := .ref CS) (i := 1) (Wout := fun _ _ _ _ => False)
        (tb := fun W D σ H => ∃ Ech : XK, (∀ cls d σ' H', Ech cls d H' → W cls d σ' H') ∧ σ[0]? = some (some (.ref f)) ∧ H c' = some (LamX.CodeO c' q) ∧ tl Ech H D.rt)
        (ts := fun a cls d D σ H => (∃ σ0 : L2.St, σ = σ0.set 1 (some (.ref a))) ∧ ∃ y z, cls = .ref (N.ea X.K y) ∧ d = none ∧ ws.lookup y = some z ∧ LamX.Tabs T H ∧ ∀ H2, LamX.ExtN H H2 → LamX.Tabs T H2 → D.rt (.str z) H2)
        rfl rfl nd rfl hl ⟨gl_of rfl ge, (nm_of nx).1, .inl mx⟩ LamX.takes0 (fun W pn xe tk _ => ?_) (fun a oe cls d pn hz hf => ?_)), ?_⟩
      · refine ⟨fun pins s' σ H' D I h' => ?_⟩
        obtain ⟨Ech, hW, h1, h2, h3⟩ := h'
        exact (pss_one (ps_ret (act W pn xe Ech _ _ tk hW))).run pins s' σ H' D I ⟨h1, h2, h3⟩
      · refine ⟨fun pins s' σ H' D I h' => ?_⟩
        obtain ⟨⟨σ0, rfl⟩, y, z, rfl, rfl, hw, ht, hq⟩ := h'
        have h0 : (σ0.set 1 (some (V.ref a)))[1]? = some (some (V.ref a)) := by
          have ln := I.len
          rw [List.length_set] at ln
          have l2 : σ0.length = 2 := ln
          rw [List.getElem?_set_self (by omega)]
        have F := run y z hw (a, oe) hz hf
        have pe := pe_hot (X := Z.suite a ((a, oe) :: pn)) (q := q5) (pos := q7) F (rm s _) List.mem_cons_self (gl_of rfl gw) mw kw bw (pa_cons (pe_var (X := Z.suite a ((a, oe) :: pn)) (i := 1) (pos := q6) rfl (.inl hl) (nm_of ne).1 (nm_of ne).2) pa_nil (star1 rfl)) (nm_of nw).1 rfl
        exact (pss_one (ps_ret pe)).run pins s' _ H' D I ⟨_, h0, rfl, ht, hq⟩
      · refine ⟨fun cls d H' => _, fun cls d σ' H' hh => ?_, rfl, hc, h⟩
        obtain ⟨y, z, rfl, rfl, hw, ht, hq⟩ := hh
        refine ⟨true, exm y z hw, fun _ a _ => ⟨⟨σ', rfl⟩, y, z, rfl, rfl, hw, ht, hq⟩, fun z => by cases z⟩
    · cases hb
  · cases hb
end TS

set_option maxRecDepth 100000
set_option maxHeartbeats 4000000
/-! The asking def: from the head's facts. -/
namespace TS
open PySem PySem.Spec PyProof.Rows L2 L2H
theorem excC_of {K : PySem.W.Frag} {D : Addr} (h : excCB K D = true) : ExcC K D := by
  unfold excCB at h
  simp only [Bool.and_eq_true, decide_eq_true_eq] at h
  obtain ⟨h1, h2, h3, h4, h5, h6, h7, h8⟩ := h
  exact ⟨He.eqO_ok h1, He.eqO_ok h2, h3, h4, He.eqO_ok h5, He.eqO_ok h6, h7, h8⟩
def runB (S : Sig) (wd : WD) (p : Nat × Str) : Bool := match TT.evSs cxt0 0 (wB wd (bOf S p.1)) [none, none, none] [] with
  | .ok (.ret w, _) _ => decide (w = .d (.str p.2))
  | _ => false
structure AskP (S : Sig) (dA dW : He.DefD) (a e ev : Str) (wd : WD) : Prop where
  hA : askD dA.body = some (a, ("HandError" : Str), e, ("_law_which" : Str))
  atA : dA.at_ = (S.asked, none)
  nmA : dA.name = S.asked ∧ dA.qual = S.asked
  scA : C8.scC [a, e] [a] dA.scope = true
  le : dA.scope.names.lookup e = some .local
  va : visB dA.scope a = true
  na : nm1 a = true
  ne : nm1 e = true
  gx : glB dA.scope "HandError" = true
  gw : glB dA.scope "_law_which" = true
  pA : plainArgs dA.params [a] = true
  atW : dW.at_ = (("_law_which" : Str), none)
  hW : whD ev dW.body = some wd
  pW : plainArgs dW.params [ev] = true
  ok : wd.ok = true
  scW : C8.scC [ev, wd.m, wd.n] [ev] dW.scope = true
  vev : visB dW.scope ev = true
  lm : dW.scope.names.lookup wd.m = some .local
  ln : dW.scope.names.lookup wd.n = some .local
  nev : nm1 ev = true
  gi : glB dW.scope "isinstance" = true
  vv : wd.v = "ValueError"
  gv : glB dW.scope "ValueError" = true
  cls : ((wd.c1 ++ wd.c2 ++ wd.c3 ++ wd.c4).all fun cn => glB dW.scope cn && nm1 cn && !decide (cn = "ValueError") && S.P.words.any fun q => decide (S.N.es[q.1]? = some cn)) = true
  run : (S.P.words.all fun p => runB S wd p) = true
  dfl : dA.dfl = [] ∧ dA.kwd = [] ∧ dW.dfl = [] ∧ dW.kwd = []
  es : ((("HandError" : Str)) ∈ S.N.es)
  nx : nm1 "HandError" = true ∧ nm1 "_law_which" = true
theorem ask_of {S : Sig} {P : Program} {w : World} {K : PySem.W.Frag} {mg : Str → Option Value} {base h : Heap} {T : List (Addr × Str)} {dA dW : He.DefD} {a e ev : Str} {wd : WD} (A : AskP S dA dW a e ev wd) (X : K.In h) (G : h.Ns mainGlobals mg) (bf : BaseF S K mg)
    (fa : ∀ f ∈ [He.Fa.glo S.asked, .glo "_law_which", .free "isinstance", .free "ValueError"], f.ok K = true) (ex : excsB S "HandError" K = true) (FA : ∃ fd, FunD K dA.name dA.qual dA.params dA.body dA.scope (dA.dvs K) (dA.kws K) (He.fAd K dA.at_) fd)
    (FW : ∃ fd, FunD K dW.name dW.qual dW.params dW.body dW.scope (dW.dvs K) (dW.kws K) (He.fAd K dW.at_) fd) : AskOk S.N P w K mg base T S.P.words S.asked := by
  obtain ⟨fdA, FA⟩ := FA
  obtain ⟨fdW, FW⟩ := FW
  obtain ⟨d1, d2, d3, d4⟩ := A.dfl
  have e1 : dA.dvs K = [] := by unfold He.DefD.dvs; rw [d1]; rfl
  have e2 : dA.kws K = [] := by unfold He.DefD.kws; rw [d2]; rfl
  have e3 : dW.dvs K = [] := by unfold He.DefD.dvs; rw [d3]; rfl
  have e4 : dW.kws K = [] := by unfold He.DefD.kws; rw [d4]; rfl
  rw [e1, e2] at FA
  rw [e3, e4] at FW
  have scA := C8.fnScope_by A.scA
  have scW := C8.fnScope_by A.scW
  have bA := FA.bindsN (ps := [a]) fun kV doc pm an cdv ct us hl => bind_plain A.pA (by simp) hl
  have bW := FW.bindsN (ps := [ev]) fun kV doc pm an cdv ct us hl => bind_plain A.pW (by simp) hl
  have mA : mg S.asked = some (.ref (He.fAd K dA.at_)) := by rw [A.atA]; exact He.glo_ok X G (fa _ (by simp))
  have mW : mg "_law_which" = some (.ref (He.fAd K dW.at_)) := by rw [A.atW]; exact He.glo_ok X G (fa _ (by simp))
  have mI : mg "isinstance" = none := He.free_ok X G (fa _ (by simp))
  have mV : mg "ValueError" = none := He.free_ok X G (fa _ (by simp))
  obtain ⟨ih, hh⟩ := List.mem_iff_getElem?.mp A.es
  have eH : S.N.ea K ih = He.ga K "HandError" := by
    unfold Nm.ea Nm.en
    rw [nmAt_get hh]
  have mH := (bf.exc ih _ hh).1
  rw [eH] at mH
  have exs : ∀ p ∈ S.P.words, _ := fun p hp => List.all_eq_true.mp ex p hp
  simp only [Bool.and_eq_true, decide_eq_true_eq, List.all_eq_true] at exs
  have cls := List.all_eq_true.mp A.cls
  have runs := List.all_eq_true.mp A.run
  have ka := FA.kp
  have hA := A.hA
  obtain ⟨nm, ql⟩ := A.nmA
  obtain ⟨oc, od, dV, kV, doc, pm, an, cdv, ct, osl, rfl, lk, hcd, _, _⟩ := FA.ex
  rw [nm, ql] at lk bA
  rw [ql] at hcd
  refine ⟨a, _, _, _, _, dV, kV, doc, pm, cdv, ct, oc, an, od, osl, [a, e], mA, ka, lk, hcd, bA, scA, rfl, vis_of A.va, (nm_of A.na).1, (nm_of A.na).2, fun Y q h1 h2 h3 h4 h5 room => ?_⟩
  subst h1 h2 h3 h4 h5
  refine asked_gives (k := 1) A.hA scA.nd A.le scA.kind A.gx A.nx.1 mH A.gw A.nx.2 A.ne mW FW.kp bW (fun y z hw => (exs _ (lookup_mem hw)).2.2.2) (fun y z hw p hz hf => ?_) fun s hd => ?_
  · have ey := exs _ (lookup_mem hw)
    have ru := runs _ (lookup_mem hw)
    unfold runB at ru
    split at ru
    · rename_i w1 e1 s1 er
      have ew := of_decide_eq_true ru
      subst ew
      refine which_run (N := S.N) FW A.hW A.ok A.scW A.vev A.lm A.ln A.nev A.gi mI (b := bOf S y) (fun cn hc => ?_) (excC_of ey.1) hz hf er
      rcases List.mem_cons.mp hc with rfl | hc
      · refine ⟨by rw [A.vv]; exact A.gv, by rw [A.vv]; decide, .inr ⟨"ValueError", by rw [A.vv]; exact mV, by rw [A.vv]; rfl, by rw [A.vv]; decide, ?_⟩⟩
        rw [ey.2.2.1]
        simp [bOf, A.vv]
      · have c1 := cls cn hc
        simp only [Bool.and_eq_true, Bool.not_eq_true', decide_eq_false_iff_not, List.any_eq_true, decide_eq_true_eq] at c1
        obtain ⟨⟨⟨g1, g2⟩, g3⟩, ⟨q1, q2, q3⟩⟩ := c1
        refine ⟨g1, g2, .inl ⟨S.N.ea Y.K q1.1, (bf.exc q1.1 cn q3).1, ?_⟩⟩
        rw [ey.2.1 q1 q2]
        have en : S.N.en q1.1 = cn := nmAt_get q3
        rw [en]
        simp [bOf, g3]
    · cases ru
  · have := room.dp
    have := room.un
    refine ⟨?_, ?_⟩
    · show Y.A.depth + 1 + 3 * 1 + 5 < _
      omega
    · show Y.A.units + 3 + 16 * 1 + 200 < _
      omega
theorem base_of {S : Sig} {ds : List DefS} {li : Nat} {x : Str} {w : World} {K : PySem.W.Frag} {mg : Str → Option Value} {h : Heap} {more : List He.Fa} {defs : List He.DefD} {tf : List He.Defn} {ex : PySem.W.Frag → Bool} (pl : Plan S ds li x) (KX : K.In h) (G : h.Ns mainGlobals mg)
    (c : He.SaysX (.glo "law" :: (S.facts ++ more)) (ds.map (·.d) ++ defs) [] tf ex w h K) (nw : nwB S K = true) : BaseF S K mg := by
  have cd := c.t.d
  refine base_f pl.ok nw KX G (fun f hf => cd.facts (List.mem_cons_of_mem _ (List.mem_append_left _ hf))) fun n p e => ?_
  rw [pl.ats, List.getElem?_map] at e
  cases h1 : ds[n]? with
  | none => rw [h1] at e; cases e
  | some d =>
    rw [h1] at e
    cases e
    obtain ⟨fd, F⟩ := cd.defs (d := d.d) (List.mem_append_left _ (List.mem_map.mpr ⟨d, List.mem_of_getElem? h1, rfl⟩))
    exact F.kp
/-- the law asks by the asking def -/
theorem asks {S : Sig} {ds : List DefS} {li : Nat} {x : Str} {P : Program} {w : World} {K : PySem.W.Frag} {mg : Str → Option Value} {h : Heap} {tf : List He.Defn} {ex : PySem.W.Frag → Bool} {T : List (Addr × Str)} {dA dW : He.DefD} {a e ev : Str} {wd : WD} (pl : Plan S ds li x) (A : AskP S dA dW a e ev wd) (KX : K.In h) (G : h.Ns mainGlobals mg)
    (c : He.SaysX (.glo "law" :: (S.facts ++ [He.Fa.glo S.asked, .glo "_law_which", .free "isinstance", .free "ValueError"])) (ds.map (·.d) ++ [dA, dW]) [] tf ex w h K) (hex : ex K = true → excsB S "HandError" K = true) (hnw : ex K = true → nwB S K = true) (base : Heap) : AskOk S.N P w K mg base T S.P.words S.asked := by
  have cd := c.t.d
  exact ask_of A KX G (base_of pl KX G c (hnw c.more)) (fun f hf => cd.facts (List.mem_cons_of_mem _ (List.mem_append_right _ hf))) (hex c.more) (cd.defs (List.mem_append_right _ (by simp))) (cd.defs (List.mem_append_right _ (by simp)))
end TS

set_option maxHeartbeats 0
namespace G
open PySem PySem.Spec PyProof.Rows L2 TS
def wd : WD := ⟨("_law_marks" : Str), ("_law_names" : Str), [("NoBook" : Str), ("NoTree" : Str), ("NoPlace" : Str), ("NoReader" : Str)], [("Unlike" : Str), ("TooGreat" : Str), ("NoGuesser" : Str)], [("NoPattern" : Str), ("NoNumber" : Str), ("NoTurner" : Str)], [("NoText" : Str), ("NoLine" : Str), ("NoName" : Str), ("Nothing" : Str)], ("ValueError" : Str), ("other" : Str), [("book" : Str), ("tree" : Str), ("place" : Str), ("reader" : Str), ("unlike" : Str), ("great" : Str), ("guesser" : Str), ("pattern" : Str), ("number" : Str), ("turner" : Str)], [("text" : Str), ("line" : Str), ("name" : Str), ("nothing" : Str)]⟩
theorem askP : AskP sig dA dW ("_law_call" : Str) ("_law_e" : Str) ("_law_e" : Str) wd := ⟨by decide +kernel, by decide +kernel, ⟨by decide +kernel, by decide +kernel⟩, by decide +kernel, by decide +kernel, by decide +kernel, by decide +kernel, by decide +kernel, by decide +kernel, by decide +kernel, by decide +kernel, by decide +kernel, by decide +kernel, by decide +kernel, by decide +kernel, by decide +kernel, by decide +kernel, by decide +kernel, by decide +kernel, by decide +kernel, by decide +kernel, by decide +kernel, by decide +kernel, by decide +kernel, by decide +kernel, ⟨rfl, rfl, rfl, rfl⟩, by decide +kernel, ⟨by decide +kernel, by decide +kernel⟩⟩
theorem plan : Plan sig ds li "_law_script" := ⟨by decide +kernel, by decide +kernel, by decide +kernel, by decide +kernel, by decide +kernel, by decide +kernel⟩
theorem ex_ok {K : PySem.W.Frag} (h : ex K = true) : exT ds K = true := (Bool.and_eq_true_iff.mp h).1
theorem nw_ok {K : PySem.W.Frag} (h : ex K = true) : nwB sig K = true := (Bool.and_eq_true_iff.mp (Bool.and_eq_true_iff.mp h).2).1
theorem ask_ok {w : World} {K : PySem.W.Frag} {mg : Str → Option Value} {h : Heap} (KX : K.In h) (G0 : h.Ns mainGlobals mg) (c : He.SaysX fa fn [] (tfOf ds) ex w h K) : (∀ e ∈ ds, e.lam = false) ∨ ∀ base : Heap, K.In base → base.Ns mainGlobals mg → AskOk sig.N (PySem.Challenge.rw_treehands_k48_refusals_of_landing).prog w K mg base (tabT ds K) sig.P.words sig.asked :=
  .inr fun base _ _ => asks plan askP KX G0 c (fun h => (Bool.and_eq_true_iff.mp (Bool.and_eq_true_iff.mp h).2).2) nw_ok base
end G

/-! loops -/
namespace TT
section
variable {c : Cxt} {n : Nat} {tg : Tg} {kill : List Nat} {body : Ss} {g : Its} {α : Type}
theorem forG_rng (E : Int → Env) (S : Int → Sto) {i m : Int} (hi : i ≤ m) (h : ∀ j r, i ≤ j → j < m → forG c n tg kill body g (.int j :: r) (E j) (S j) = forG c n tg kill body g r (E (j + 1)) (S (j + 1))) :
    forG c n tg kill body g (rngD i m) (E i) (S i) = forG c n tg kill body g [] (E m) (S m) := by
  obtain ⟨d, hd⟩ : ∃ d : Nat, m = i + d := ⟨(m - i).toNat, by omega⟩
  induction d generalizing i with
  | zero =>
    have : m = i := by omega
    subst this
    rw [rngD_nil (by omega)]
  | succ d ih =>
    rw [rngD_cons (by omega), h i _ (by omega) (by omega)]
    exact ih (by omega) (fun j r h1 h2 => h j r (by omega) h2) (by omega)
theorem forG_map (enc : α → D) (E : List α → Env) (S : List α → Sto) (xs : List α) (h : ∀ p x q r, xs = p ++ x :: q → forG c n tg kill body g (enc x :: r) (E p) (S p) = forG c n tg kill body g r (E (p ++ [x])) (S (p ++ [x]))) :
    forG c n tg kill body g (xs.map enc) (E []) (S []) = forG c n tg kill body g [] (E xs) (S xs) := by
  have go : ∀ (q p : List α), xs = p ++ q → forG c n tg kill body g (q.map enc) (E p) (S p) = forG c n tg kill body g [] (E xs) (S xs) := by
    intro q
    induction q with
    | nil => intro p e; rw [e]; simp
    | cons x q ih =>
      intro p e
      rw [List.map_cons, h p x q _ e]
      exact ih (p ++ [x]) (by rw [e]; simp)
  exact go xs [] rfl
variable {ifs : Es} {elt : E} {e : Env} {s : Sto}
theorem lcG_map (enc : α → D) (f : α → List D) (xs : List α) (hl : (xs.map f).flatten.length ≤ 10000) (h : ∀ x ∈ xs, ∀ acc r, acc.length ≤ 10000 → lcG c tg ifs elt e g n (enc x :: r) (s ++ [.lst acc]) = lcG c tg ifs elt e g n r (s ++ [.lst (acc ++ f x)])) :
    lcG c tg ifs elt e g n (xs.map enc) (s ++ [.lst []]) = lcG c tg ifs elt e g n [] (s ++ [.lst (xs.map f).flatten]) := by
  have go : ∀ (q : List α) (acc : List D), acc.length + (q.map f).flatten.length ≤ 10000 → (∀ x ∈ q, x ∈ xs) → lcG c tg ifs elt e g n (q.map enc) (s ++ [.lst acc]) = lcG c tg ifs elt e g n [] (s ++ [.lst (acc ++ (q.map f).flatten)]) := by
    intro q
    induction q with
    | nil => intro acc _ _; simp
    | cons x q ih =>
      intro acc hl hm
      simp only [List.map_cons, List.flatten_cons, List.length_append] at hl ⊢
      rw [h x (hm x (by simp)) acc _ (by omega), ih _ (by simp only [List.length_append]; omega) fun y hy => hm y (by simp [hy])]
      simp
  have := go xs [] (by simpa using hl) fun _ h => h
  simpa using this
theorem sing_len (f : α → D) (xs : List α) : ((xs.map fun x => [f x]).flatten) = xs.map f := by
  induction xs with
  | nil => rfl
  | cons x l ih => simp only [List.map_cons, List.flatten_cons, ih]; rfl
theorem lcG_map1 (enc : α → D) (f : α → D) (xs : List α) (hl : xs.length ≤ 10000) (h : ∀ x ∈ xs, ∀ acc r, sm acc.length = true → lcG c tg ifs elt e g n (enc x :: r) (s ++ [.lst acc]) = lcG c tg ifs elt e g n r (s ++ [.lst (acc ++ [f x])])) :
    lcG c tg ifs elt e g n (xs.map enc) (s ++ [.lst []]) = lcG c tg ifs elt e g n [] (s ++ [.lst (xs.map f)]) := by
  have := lcG_map (c := c) (n := n) (tg := tg) (g := g) (ifs := ifs) (elt := elt) (e := e) (s := s) enc (fun x => [f x]) xs (by rw [sing_len]; simpa using hl) fun x hx acc r ha => h x hx acc r (sm_of ha)
  rw [sing_len] at this
  exact this
theorem filt_eq (p : α → Bool) (f : α → D) (xs : List α) : ((xs.map fun x => if p x then [f x] else []).flatten) = (xs.filter p).map f := by
  induction xs with
  | nil => rfl
  | cons x l ih =>
    simp only [List.map_cons, List.flatten_cons, ih, List.filter_cons]
    split <;> simp
theorem lcG_filt (enc : α → D) (p : α → Bool) (f : α → D) (xs : List α) (hl : xs.length ≤ 10000) (h : ∀ x ∈ xs, ∀ acc r, sm acc.length = true → lcG c tg ifs elt e g n (enc x :: r) (s ++ [.lst acc]) = lcG c tg ifs elt e g n r (s ++ [.lst (if p x then acc ++ [f x] else acc)])) :
    lcG c tg ifs elt e g n (xs.map enc) (s ++ [.lst []]) = lcG c tg ifs elt e g n [] (s ++ [.lst ((xs.filter p).map f)]) := by
  have := lcG_map (c := c) (n := n) (tg := tg) (g := g) (ifs := ifs) (elt := elt) (e := e) (s := s) enc (fun x => if p x then [f x] else []) xs (by rw [filt_eq]; simp; exact Nat.le_trans (List.length_filter_le _ _) hl) fun x hx acc r ha => by
    rw [h x hx acc r (sm_of ha)]; split <;> simp
  rw [filt_eq] at this
  exact this
theorem rngD_nat (m : Nat) : rngD 0 m = (List.range m).map fun (i : Nat) => D.int i := by
  unfold rngD
  simp
end
/-! ### dicts -/
section
variable {α β : Type} [DecidableEq α]
theorem look_none {k : α} : ∀ {ks : List α} {vs : List β}, ks.length = vs.length → (look k ks vs = none ↔ k ∉ ks)
  | [], [], _ => by simp [look]
  | a :: ks, b :: vs, h => by
    simp only [List.length_cons, Nat.add_right_cancel_iff] at h
    simp only [look, List.mem_cons, not_or]
    split
    · rename_i q; simp [q]
    · rename_i q; rw [look_none h]; simp [show k ≠ a from fun e => q e.symm]
  | [], _ :: _, h => by simp at h
  | _ :: _, [], h => by simp at h
theorem look_app {k k' : α} {v : β} : ∀ {ks : List α} {vs : List β}, ks.length = vs.length → look k (ks ++ [k']) (vs ++ [v]) = if k ∈ ks then look k ks vs else if k' = k then some v else none
  | [], [], _ => by simp [look]
  | a :: ks, b :: vs, h => by
    simp only [List.length_cons, Nat.add_right_cancel_iff] at h
    simp only [List.cons_append, look, List.mem_cons]
    split
    · rename_i q; simp [q]
    · rename_i q; rw [look_app h]; simp [show k ≠ a from fun e => q e.symm]
  | [], _ :: _, h => by simp at h
  | _ :: _, [], h => by simp at h
theorem rep_len {k : α} {v : β} : ∀ {ks : List α} {vs : List β}, ks.length = vs.length → (repVs k v ks vs).length = ks.length
  | [], [], _ => rfl
  | a :: ks, b :: vs, h => by
    simp only [List.length_cons, Nat.add_right_cancel_iff] at h
    simp [repVs, rep_len h]
  | [], _ :: _, h => by simp at h
  | _ :: _, [], h => by simp at h
theorem look_rep {k k' : α} {v : β} : ∀ {ks : List α} {vs : List β}, ks.length = vs.length → look k ks (repVs k' v ks vs) = if k = k' ∧ k ∈ ks then some v else look k ks vs
  | [], [], _ => by simp [look]
  | a :: ks, b :: vs, h => by
    simp only [List.length_cons, Nat.add_right_cancel_iff] at h
    simp only [repVs, look, List.mem_cons]
    split
    · rename_i q
      subst q
      by_cases q : a = k' <;> simp [q]
    · rename_i q
      rw [look_rep h]
      have : k ≠ a := fun e => q e.symm
      simp [this]
  | [], _ :: _, h => by simp at h
  | _ :: _, [], h => by simp at h
/-- a dict holds what f says -/
structure DictIs (ks : List α) (vs : List β) (f : α → Option β) : Prop where
  len : ks.length = vs.length
  get : ∀ k, look k ks vs = f k
theorem DictIs.nil : DictIs ([] : List α) ([] : List β) fun _ => none := ⟨rfl, fun _ => rfl⟩
theorem DictIs.mem {ks : List α} {vs : List β} {f : α → Option β} (h : DictIs ks vs f) (k : α) : k ∈ ks ↔ f k ≠ none := by
  rw [← h.get, Ne, look_none h.len]; simp
theorem DictIs.put {ks : List α} {vs : List β} {f : α → Option β} (h : DictIs ks vs f) (k : α) (v : β) : DictIs (putKs k ks) (putVs k v ks vs) fun k' => if k = k' then some v else f k' := by
  unfold putKs putVs
  by_cases q : k ∈ ks
  · rw [if_pos q, if_pos q]
    refine ⟨by rw [rep_len h.len], fun k' => ?_⟩
    rw [look_rep h.len, h.get]
    by_cases q' : k = k'
    · subst q'; simp [q]
    · simp [q', show k' ≠ k from fun e => q' e.symm]
  · rw [if_neg q, if_neg q]
    refine ⟨by simp [h.len], fun k' => ?_⟩
    rw [look_app h.len, h.get]
    by_cases q' : k = k'
    · subst q'; simp [q]
    · simp only [q', if_false]
      split
      · rfl
      · rename_i q2
        have := h.mem k'
        simp [q2] at this
        exact this.symm
theorem putKs_len (k : α) (ks : List α) : (putKs k ks).length ≤ ks.length + 1 := by
  unfold putKs; split <;> simp
end
@[simp] theorem fair_ii (a b : Int) : fair (.int a) (.int b) = true := by simp [fair, D.pl]
@[simp] theorem fair_ss (a b : PySem.Str) : fair (.str a) (.str b) = true := by simp [fair, D.pl]
@[simp] theorem fair_bb (a b : Bool) : fair (.bl a) (.bl b) = true := by simp [fair, D.pl]
@[simp] theorem fair_in (a : Int) : fair (.int a) .non = true := by simp [fair, D.pl]
@[simp] theorem atI_zero {α : Type} (x : α) (l : List α) : atI (x :: l) 0 = some x := by
  unfold atI ixOf; simp
@[simp] theorem atI_one {α : Type} (x y : α) (l : List α) : atI (x :: y :: l) 1 = some y := by
  unfold atI ixOf
  rw [if_pos (by omega), if_pos (by simp; omega)]
  rfl
theorem cut_mid {α : Type} (a b c : List α) (i j : Int) (hi : i = a.length) (hj : j = a.length + b.length) : cut (a ++ (b ++ c)) (some i) (some j) = b := by
  subst hi hj
  unfold cut sIx
  simp only
  rw [if_neg (by omega), if_neg (by omega)]
  simp only [List.length_append]
  rw [show ((a.length : Int)).toNat = a.length by omega, show ((a.length : Int) + b.length).toNat = a.length + b.length by omega]
  rw [show min a.length (a.length + (b.length + c.length)) = a.length by omega, show min (a.length + b.length) (a.length + (b.length + c.length)) = a.length + b.length by omega]
  rw [List.drop_left, show a.length + b.length - a.length = b.length by omega, List.take_left]
theorem cut_lo {α : Type} (l : List α) (i : Int) (h0 : 0 ≤ i) (h1 : i ≤ l.length) : cut l none (some i) = l.take i.toNat := by
  unfold cut sIx
  simp only
  rw [if_neg (by omega), show min i.toNat l.length = i.toNat by omega]
  simp
theorem cut_hi {α : Type} (l : List α) (i : Int) (h0 : 0 ≤ i) (h1 : i ≤ l.length) : cut l (some i) none = l.drop i.toNat := by
  unfold cut sIx
  simp only
  rw [if_neg (by omega), show min i.toNat l.length = i.toNat by omega]
  exact List.take_of_length_le (by simp)
end TT

/-! plain: trees and their rows -/
namespace TT
/-- trees with things in the places of leaves -/
inductive T (V : Type) where
  | v (x : V) | z (s : Int) | o (s : Int) (a : T V) | t (s : Int) (a b : T V)
abbrev G0 := T Empty
variable {V U : Type}
instance : Inhabited (T V) := ⟨.z 0⟩
/-- is it a tree by such numbers of kids -/
def T.Ok (ks : List Int) : T V → Prop
  | .v _ => True
  | .z s => (0 ≤ s ∧ s < ks.length) ∧ gi ks s = 0
  | .o s a => (0 ≤ s ∧ s < ks.length) ∧ gi ks s = 1 ∧ a.Ok ks
  | .t s a b => (0 ≤ s ∧ s < ks.length) ∧ gi ks s = 2 ∧ a.Ok ks ∧ b.Ok ks
/-- its row -/
def T.row (f : V → D) : T V → List D
  | .v x => [f x]
  | .z s => [.int s]
  | .o s a => .int s :: a.row f
  | .t s a b => .int s :: (a.row f ++ b.row f)
def T.size : T V → Nat
  | .v _ => 1
  | .z _ => 1
  | .o _ a => 1 + a.size
  | .t _ a b => 1 + (a.size + b.size)
def T.height : T V → Nat
  | .v _ => 1
  | .z _ => 1
  | .o _ a => 1 + a.height
  | .t _ a b => 1 + max a.height b.height
theorem T.row_len (f : V → D) (t : T V) : (t.row f).length = t.size := by
  induction t <;> simp_all [T.row, T.size] <;> omega
theorem T.size_pos (t : T V) : 1 ≤ t.size := by cases t <;> simp [T.size] <;> omega
theorem T.height_le (t : T V) : t.height ≤ t.size := by
  induction t <;> simp_all [T.height, T.size] <;> omega
def T.sub (σ : V → T U) : T V → T U
  | .v x => σ x
  | .z s => .z s
  | .o s a => .o s (a.sub σ)
  | .t s a b => .t s (a.sub σ) (b.sub σ)
/-- the numbers of a tree without things -/
def T.nums : G0 → List Int
  | .z s => [s]
  | .o s a => s :: a.nums
  | .t s a b => s :: (a.nums ++ b.nums)
theorem T.nums_len (t : G0) : t.nums.length = t.size := by
  induction t with
  | v x => exact x.elim
  | z s => rfl
  | o s a ih => simp [T.nums, T.size, ih]; omega
  | t s a b iha ihb => simp [T.nums, T.size, iha, ihb]; omega
theorem T.row_nums (f : Empty → D) (t : G0) : t.row f = t.nums.map .int := by
  induction t with
  | v x => exact x.elim
  | z s => rfl
  | o s a ih => simp [T.nums, T.row, ih]
  | t s a b iha ihb => simp [T.nums, T.row, iha, ihb]
/-- a tree as data -/
def tD (t : G0) : D := .tup (t.nums.map .int)
/-! ### where rows end -/
def endOf (ks : List Int) : List Int → Int → Int → Int
  | [], _, _ => -1
  | x :: r, w, p => if 0 ≤ x ∧ x < ks.length then if w + gi ks x - 1 = 0 then p + 1 else endOf ks r (w + gi ks x - 1) (p + 1) else -1
/-- a tree ahead of a row -/
theorem endOf_tree (ks : List Int) (t : G0) (h : t.Ok ks) : ∀ (r : List Int) (w p : Int), 1 ≤ w → endOf ks (t.nums ++ r) w p = if w = 1 then p + t.size else endOf ks r (w - 1) (p + t.size) := by
  induction t with
  | v x => exact x.elim
  | z s =>
    intro r w p hw
    simp only [T.nums, List.cons_append, List.nil_append, endOf, h.1, h.2, and_self, if_true, T.size]
    by_cases q : w = 1
    · simp [q]
    · rw [if_neg q, if_neg (by omega)]; simp
  | o s a ih =>
    intro r w p hw
    simp only [T.nums, List.cons_append, endOf, h.1, h.2.1, and_self, if_true, T.size]
    rw [if_neg (by omega), ih h.2.2 _ _ _ (by omega)]
    by_cases q : w = 1
    · simp [q]; omega
    · rw [if_neg q, if_neg (by omega)]; congr 1 <;> simp <;> omega
  | t s a b iha ihb =>
    intro r w p hw
    simp only [T.nums, List.cons_append, endOf, h.1, h.2.1, and_self, if_true, T.size, List.append_assoc]
    rw [if_neg (by omega), iha h.2.2.1 _ _ _ (by omega), if_neg (by omega), ihb h.2.2.2 _ _ _ (by omega)]
    by_cases q : w = 1
    · simp [q]; omega
    · rw [if_neg q, if_neg (by omega)]; congr 1 <;> simp <;> omega
theorem endOf_self (ks : List Int) (t : G0) (h : t.Ok ks) (r : List Int) (p : Int) : endOf ks (t.nums ++ r) 1 p = p + t.size := by
  rw [endOf_tree ks t h _ _ _ (by omega)]; simp
theorem endOf_le (ks : List Int) : ∀ (r : List Int) (w p : Int), endOf ks r w p = -1 ∨ (p < endOf ks r w p ∧ endOf ks r w p ≤ p + r.length)
  | [], w, p => by simp [endOf]
  | x :: r, w, p => by
    simp only [endOf]
    split
    · split
      · right; simp; omega
      · rcases endOf_le ks r (w + gi ks x - 1) (p + 1) with h | h
        · exact .inl h
        · right; simp; omega
    · exact .inl rfl
/-- the rows of some trees -/
def numsL (ts : List G0) : List Int := (ts.map T.nums).flatten
theorem gi_mem {α : Type} [Inhabited α] {ks : List α} {x : Int} (h0 : 0 ≤ x) (h1 : x < ks.length) : gi ks x ∈ ks := by
  unfold gi
  have : x.toNat < ks.length := by omega
  simp [List.getD, this]
theorem parse_all (ks : List Int) (hk : ∀ k ∈ ks, 0 ≤ k ∧ k ≤ 2) : ∀ (r : List Int) (w p : Int), 1 ≤ w → endOf ks r w p = p + r.length → 0 ≤ p → ∃ ts : List G0, (ts.length : Int) = w ∧ (∀ t ∈ ts, t.Ok ks) ∧ r = numsL ts
  | [], w, p, hw, h, hp => by simp [endOf] at h; omega
  | x :: r, w, p, hw, h, hp => by
    simp only [endOf] at h
    have gm : 0 ≤ x ∧ x < ks.length → gi ks x ∈ ks := fun hx => gi_mem hx.1 hx.2
    split at h
    · rename_i hx
      have hg := hk _ (gm hx)
      split at h
      · rename_i q
        have : r = [] := by cases r with
          | nil => rfl
          | cons y r => simp at h; omega
        subst this
        refine ⟨[.z x], by simp; omega, ?_, rfl⟩
        simp only [List.mem_singleton, forall_eq, T.Ok]
        exact ⟨hx, by omega⟩
      · rename_i q
        obtain ⟨ts, hl, hts, hr⟩ := parse_all ks hk r (w + gi ks x - 1) (p + 1) (by omega) (by rw [h]; simp; omega) (by omega)
        have h0 : gi ks x = 0 ∨ gi ks x = 1 ∨ gi ks x = 2 := by omega
        rcases h0 with h0 | h0 | h0
        · refine ⟨.z x :: ts, by simp; omega, ?_, by simp [numsL, T.nums, hr]⟩
          intro t ht
          rcases List.mem_cons.mp ht with rfl | ht
          · exact ⟨hx, h0⟩
          · exact hts t ht
        · match ts, hl, hts, hr with
          | [], hl, _, _ => simp at hl; omega
          | a :: ts, hl, hts, hr =>
            refine ⟨.o x a :: ts, by simp at hl ⊢; omega, ?_, by simp [numsL, T.nums, hr]⟩
            intro t ht
            rcases List.mem_cons.mp ht with rfl | ht
            · exact ⟨hx, h0, hts a (by simp)⟩
            · exact hts t (by simp [ht])
        · match ts, hl, hts, hr with
          | [], hl, _, _ => simp at hl; omega
          | [a], hl, _, _ => simp at hl; omega
          | a :: b :: ts, hl, hts, hr =>
            refine ⟨.t x a b :: ts, by simp at hl ⊢; omega, ?_, by simp [numsL, T.nums, hr]⟩
            intro t ht
            rcases List.mem_cons.mp ht with rfl | ht
            · exact ⟨hx, h0, hts a (by simp), hts b (by simp)⟩
            · exact hts t (by simp [ht])
    · simp at h; omega
theorem parse_one (ks : List Int) (hk : ∀ k ∈ ks, 0 ≤ k ∧ k ≤ 2) (r : List Int) (h : endOf ks r 1 0 = r.length) : ∃ t : G0, t.Ok ks ∧ r = t.nums := by
  obtain ⟨ts, hl, hts, hr⟩ := parse_all ks hk r 1 0 (by omega) (by omega) (by omega)
  match ts, hl, hts, hr with
  | [t], _, hts, hr => exact ⟨t, hts t (by simp), by simp [hr, numsL]⟩
  | [], hl, _, _ => simp at hl
  | _ :: _ :: _, hl, _, _ => simp at hl; omega
/-- a book -/
structure Bk where
  ns : List PySem.Str
  ks : List Int
  deriving DecidableEq
structure Bk.Ok (b : Bk) : Prop where
  len : b.ns.length = b.ks.length
  two : ∀ k ∈ b.ks, 0 ≤ k ∧ k ≤ 2
  six : b.ks.length ≤ 6
end TT

/-! plain: turners -/
namespace TT
variable {V U : Type}
theorem rngD00 : rngD 0 0 = [] := rngD_nil (by omega)
theorem rngD01 : rngD 0 1 = [.int 0] := by rw [rngD_cons (by omega), rngD_nil (by omega)]
theorem rngD02 : rngD 0 2 = [.int 0, .int 1] := by rw [rngD_cons (by omega), rngD_cons (by omega), rngD_nil (by omega)]; rfl
/-- each thing in a tree -/
def T.All (p : V → Prop) : T V → Prop
  | .v x => p x
  | .z _ => True
  | .o _ a => a.All p
  | .t _ a b => a.All p ∧ b.All p
theorem T.sub_ok {ks : List Int} {σ : V → T U} (m : T V) (h : m.All fun x => (σ x).Ok ks) (hm : m.Ok ks) : (m.sub σ).Ok ks := by
  induction m with
  | v x => exact h
  | z s => exact hm
  | o s a ih => exact ⟨hm.1, hm.2.1, ih h hm.2.2⟩
  | t s a b iha ihb => exact ⟨hm.1, hm.2.1, iha h.1 hm.2.2.1, ihb h.2 hm.2.2.2⟩
theorem T.All.mono {p q : V → Prop} (h : ∀ x, p x → q x) {m : T V} (hm : m.All p) : m.All q := by
  induction m with
  | v x => exact h x hm
  | z s => trivial
  | o s a ih => exact ih hm
  | t s a b iha ihb => exact ⟨iha hm.1, ihb hm.2⟩
theorem T.all_of {p : V → Prop} (h : ∀ x, p x) (m : T V) : m.All p := by
  induction m with
  | v x => exact h x
  | z s => trivial
  | o s a ih => exact ih
  | t s a b iha ihb => exact ⟨iha, ihb⟩
/-- a tuple of a state and a kid -/
def hD (x : Int × Int) : D := .tup [.int x.1, .int x.2]
theorem hD_inj {x y : Int × Int} : hD x = hD y ↔ x = y := by
  simp [hD, Prod.ext_iff]
abbrev Mr := T (Int × Int)
def mD (m : Mr) : D := .tup (m.row hD)
/-- a turner -/
structure Tn where
  bk : Bk
  gl : Bk
  rows : List (List Mr)
def Tn.mr (t : Tn) (st sg : Int) : Mr := gi (gi t.rows st) sg
def Tn.n (t : Tn) : Int := t.rows.length
/-- a made row is right -/
structure MrOk (ks : List Int) (states kids : Int) (m : Mr) : Prop where
  ok : m.Ok ks
  all : m.All fun x => (0 ≤ x.1 ∧ x.1 < states) ∧ (0 ≤ x.2 ∧ x.2 < kids)
structure Tn.Ok (t : Tn) : Prop where
  bk : t.bk.Ok
  gl : t.gl.Ok
  pos : 1 ≤ t.rows.length
  len : ∀ some ∈ t.rows, some.length = t.bk.ks.length
  mr : ∀ st sg : Int, 0 ≤ st → st < t.n → 0 ≤ sg → sg < t.bk.ks.length → MrOk t.gl.ks t.n (gi t.bk.ks sg) (t.mr st sg)
  most : t.rows.length ≤ 4000
  size : ∀ some ∈ t.rows, ∀ m ∈ some, m.size ≤ 5000
/-- a tree turned by a state -/
def turn (mr : Int → Int → Mr) (lv : Int → V → T U) : T V → Int → T U
  | .v x, st => lv st x
  | .z s, st => (mr st s).sub fun _ => default
  | .o s a, st => (mr st s).sub fun h => turn mr lv a h.1
  | .t s a b, st => (mr st s).sub fun h => if h.2 = 0 then turn mr lv a h.1 else turn mr lv b h.1
def Tn.turn (t : Tn) (x : G0) (st : Int) : G0 := TT.turn t.mr (fun _ => Empty.elim) x st
theorem turn_ok {t : Tn} (ht : t.Ok) {lv : Int → V → T U} (hl : ∀ st x, 0 ≤ st → st < t.n → (lv st x).Ok t.gl.ks) (x : T V) : x.Ok t.bk.ks → ∀ st, 0 ≤ st → st < t.n → (turn t.mr lv x st).Ok t.gl.ks := by
  induction x with
  | v x => intro _ st h0 h1; exact hl st x h0 h1
  | z s =>
    intro hx st h0 h1
    have hm := ht.mr st s h0 h1 hx.1.1 hx.1.2
    refine T.sub_ok _ (hm.all.mono fun x h => ?_) hm.ok
    have := hx.2
    omega
  | o s a ih =>
    intro hx st h0 h1
    have hm := ht.mr st s h0 h1 hx.1.1 hx.1.2
    exact T.sub_ok _ (hm.all.mono fun x h => ih hx.2.2 _ h.1.1 h.1.2) hm.ok
  | t s a b iha ihb =>
    intro hx st h0 h1
    have hm := ht.mr st s h0 h1 hx.1.1 hx.1.2
    refine T.sub_ok _ (hm.all.mono fun x h => ?_) hm.ok
    split
    · exact iha hx.2.2.1 _ h.1.1 h.1.2
    · exact ihb hx.2.2.2 _ h.1.1 h.1.2
theorem Tn.turn_ok {t : Tn} (ht : t.Ok) {x : G0} (hx : x.Ok t.bk.ks) {st : Int} (h0 : 0 ≤ st) (h1 : st < t.n) : (t.turn x st).Ok t.gl.ks :=
  TT.turn_ok ht (fun _ x => x.elim) x hx st h0 h1
theorem Tn.row_mem {t : Tn} {st : Int} (h0 : 0 ≤ st) (h1 : st < t.n) : gi t.rows st ∈ t.rows := gi_mem h0 h1
theorem Tn.mr_mem {t : Tn} (ht : t.Ok) {st sg : Int} (h0 : 0 ≤ st) (h1 : st < t.n) (h2 : 0 ≤ sg) (h3 : sg < t.bk.ks.length) : t.mr st sg ∈ gi t.rows st :=
  gi_mem h2 (by rw [ht.len _ (Tn.row_mem h0 h1)]; exact h3)
theorem Tn.mr_size {t : Tn} (ht : t.Ok) {st sg : Int} (h0 : 0 ≤ st) (h1 : st < t.n) (h2 : 0 ≤ sg) (h3 : sg < t.bk.ks.length) : (t.mr st sg).size ≤ 5000 :=
  ht.size _ (Tn.row_mem h0 h1) _ (Tn.mr_mem ht h0 h1 h2 h3)
/-- all that is by each state of a turner -/
def states (n : Int) (f : Int → D) : List D := (List.range n.toNat).map fun (i : Nat) => f i
theorem states_len (n : Int) (f : Int → D) : (states n f).length = n.toNat := by simp [states]
theorem states_succ {n : Int} (h : 0 ≤ n) (f : Int → D) : states (n + 1) f = states n f ++ [f n] := by
  unfold states
  rw [show (n + 1).toNat = n.toNat + 1 by omega, List.range_succ]
  simp [Int.max_eq_left h]
theorem states_zero (f : Int → D) : states 0 f = [] := rfl
/-- the subtrees at all places -/
def T.subs : T V → List (T V)
  | .v x => [.v x]
  | .z s => [.z s]
  | .o s a => .o s a :: a.subs
  | .t s a b => .t s a b :: (a.subs ++ b.subs)
theorem T.subs_len (x : T V) : x.subs.length = x.size := by
  induction x <;> simp_all [T.subs, T.size] <;> omega
theorem T.subs_head (x : T V) : x.subs[0]? = some x := by cases x <;> rfl
/-- what an all-walk of one more kid puts in -/
def given (kd : Int) : Int → List D → (D → Option D) → D → Option D
  | _, [], f => f
  | i, v :: r, f => given kd (i + 1) r fun k => if hD (i, kd) = k then some v else f k
theorem given_at (kd : Int) : ∀ (vals : List D) (i : Int) (f : D → Option D) (x : Int × Int), given kd i vals f (hD x) = if x.2 = kd ∧ i ≤ x.1 ∧ x.1 < i + vals.length then some (gi vals (x.1 - i)) else f (hD x)
  | [], i, f, x => by
    simp only [given, List.length_nil]
    rw [if_neg (by omega)]
  | v :: r, i, f, x => by
    simp only [given]
    rw [given_at kd r (i + 1)]
    simp only [hD_inj, List.length_cons]
    obtain ⟨a, b⟩ := x
    simp only [Prod.mk.injEq]
    by_cases h : b = kd
    · subst h
      by_cases h2 : i = a
      · subst h2
        rw [if_neg (by omega), if_pos (by simp), if_pos (by omega)]
        simp [gi]
      · by_cases h3 : i + 1 ≤ a ∧ a < i + 1 + r.length
        · rw [if_pos (by omega), if_pos (by omega)]
          unfold gi
          rw [show (a - i).toNat = (a - (i + 1)).toNat + 1 by omega]
          simp
        · rw [if_neg (by omega), if_neg (by simp [h2]), if_neg (by omega)]
    · rw [if_neg (by simp [h]), if_neg (by intro q; exact h q.2.symm), if_neg (by simp [h])]
theorem gi_states {n i : Int} (h0 : 0 ≤ i) (h1 : i < n) (f : Int → D) : gi (states n f) i = f i := by
  unfold gi states
  have : i.toNat < n.toNat := by omega
  simp [List.getD, this]
  congr 1
  omega
/-- .. of all kids -/
def given2 : Int → List (List D) → (D → Option D) → D → Option D
  | _, [], f => f
  | j, v :: r, f => given2 (j + 1) r (given j 0 v f)
theorem given2_at : ∀ (kss : List (List D)) (j : Int) (f : D → Option D) (x : Int × Int), given2 j kss f (hD x) = if j ≤ x.2 ∧ x.2 < j + kss.length ∧ 0 ≤ x.1 ∧ x.1 < (gi kss (x.2 - j)).length then some (gi (gi kss (x.2 - j)) x.1) else f (hD x)
  | [], j, f, x => by
    simp only [given2, List.length_nil]
    rw [if_neg (by omega)]
  | v :: r, j, f, x => by
    simp only [given2]
    rw [given2_at r (j + 1), given_at]
    obtain ⟨a, b⟩ := x
    simp only [List.length_cons]
    by_cases h : b = j
    · subst h
      rw [if_neg (by omega)]
      simp only [true_and, gi, Int.sub_self, Int.toNat_zero, List.getD_cons_zero, Int.zero_add, Int.sub_zero]
      by_cases h3 : 0 ≤ a ∧ a < v.length
      · rw [if_pos h3, if_pos (by simp; omega)]
      · rw [if_neg h3, if_neg (by simp; omega)]
    · have e : j < b → gi (v :: r) (b - j) = gi r (b - (j + 1)) := by
        intro hj
        unfold gi
        rw [show (b - j).toNat = (b - (j + 1)).toNat + 1 by omega]
        simp
      by_cases h2 : j < b
      · rw [e h2]
        by_cases h3 : j + 1 ≤ b ∧ b < j + 1 + r.length ∧ 0 ≤ a ∧ a < (gi r (b - (j + 1))).length
        · rw [if_pos h3, if_pos (by omega)]
        · rw [if_neg h3, if_neg (by simp [h]), if_neg (by omega)]
      · rw [if_neg (by omega), if_neg (by simp [h]), if_neg (by omega)]
end TT

/-! plain: books -/
namespace TT
open PySem (Str)
theorem pl_strs (b : Bool) (n : Nat) (l : List Str) : Ds.pl b n (l.map .str) = true := by
  induction l with
  | nil => cases n <;> rfl
  | cons x l ih => cases n <;> simp_all [Ds.pl, D.pl]
theorem pl_ints (n : Nat) (l : List Int) : Ds.pl false n (l.map .int) = true := by
  induction l with
  | nil => cases n <;> rfl
  | cons x l ih => cases n <;> simp_all [Ds.pl, D.pl]
theorem fair_strs (a b : List Str) : fair (.lst (a.map .str)) (.lst (b.map .str)) = true := by
  simp [fair, D.pl, pl_strs]
theorem fair_ints (a b : List Int) : fair (.lst (a.map .int)) (.lst (b.map .int)) = true := by
  simp [fair, D.pl, pl_ints]
theorem fair_tups (a b : List Int) : fair (.tup (a.map .int)) (.tup (b.map .int)) = true := by
  simp [fair, D.pl, pl_ints]
theorem map_str_inj {a b : List Str} : a.map D.str = b.map D.str ↔ a = b := ⟨fun h => by
  have := List.map_inj_right (f := D.str) (fun _ _ h => by injection h) |>.mp h
  exact this, fun h => by rw [h]⟩
theorem map_int_inj {a b : List Int} : a.map D.int = b.map D.int ↔ a = b := ⟨fun h => by
  have := List.map_inj_right (f := D.int) (fun _ _ h => by injection h) |>.mp h
  exact this, fun h => by rw [h]⟩
theorem pyIn_str (x : Str) (l : List Str) : pyIn (.str x) (l.map .str) = some (decide (x ∈ l)) := by
  unfold pyIn
  rw [if_pos (by simp [D.pl, pl_strs])]
  congr 1
  simp
theorem pyIn_int (x : Int) (l : List Int) : pyIn (.int x) (l.map .int) = some (decide (x ∈ l)) := by
  unfold pyIn
  rw [if_pos (by simp [D.pl, pl_ints])]
  congr 1
  simp
def LET : Str := "abcdefghijklmnopqrstuvwxyz"
theorem LET_list : LET.cps.toList = List.range' 97 26 := by decide +kernel
theorem LET_mem (c : Nat) : c ∈ LET.cps.toList ↔ 97 ≤ c ∧ c < 123 := by
  rw [LET_list, List.mem_range'_1]
/-- a name of a sign -/
structure NameOk (z : Str) : Prop where
  pos : 1 ≤ z.length
  most : z.length ≤ 3
  lt : ∀ c ∈ z.cps.toList, 97 ≤ c ∧ c < 123
abbrev Sg := List (Str × Int)
/-- a list of signs that is a book -/
structure Sg.Ok (sg : Sg) : Prop where
  pos : 1 ≤ sg.length
  six : sg.length ≤ 6
  name : ∀ p ∈ sg, NameOk p.1
  nd : (sg.map (·.1)).Nodup
  kid : ∀ p ∈ sg, 0 ≤ p.2 ∧ p.2 ≤ 2
  leaf : ∃ p ∈ sg, p.2 = 0
def Sg.bk (sg : Sg) : Bk := ⟨sg.map (·.1), sg.map (·.2)⟩
def Sg.d (sg : Sg) : D := .lst (sg.map fun p => .tup [.str p.1, .int p.2])
theorem Sg.Ok.bk {sg : Sg} (h : sg.Ok) : sg.bk.Ok := ⟨by simp [Sg.bk], by
  intro k hk
  obtain ⟨p, hp, rfl⟩ := List.mem_map.mp hk
  exact h.kid p hp, by simp [Sg.bk]; exact h.six⟩
theorem bls_map {α : Type} (f : α → Bool) (l : List α) : bls (l.map fun x => .bl (f x)) = some (l.map f) := by
  induction l with
  | nil => rfl
  | cons x l ih => simp [bls, ih]
theorem dInts_map (l : List Int) : dInts (l.map .int) = some l := by
  induction l with
  | nil => rfl
  | cons x l ih => simp [dInts, ih]
/-- turned so many times; none where one is too great -/
def agn (f : G0 → G0) : Nat → G0 → Option G0
  | 0, x => some x
  | n + 1, x => if (f x).size ≤ 200 then agn f n (f x) else none
end TT

/-! plain: drawn trees, made rows and books -/
namespace TT
open PySem (Str)
variable {V : Type}
/-- of trees of such numbers of kids -/
structure Cl (ks : List Int) (Q : T V → Prop) : Prop where
  z : ∀ s : Int, 0 ≤ s → s < ks.length → gi ks s = 0 → Q (.z s)
  o : ∀ (s : Int) a, 0 ≤ s → s < ks.length → gi ks s = 1 → Q a → Q (.o s a)
  t : ∀ (s : Int) a b, 0 ≤ s → s < ks.length → gi ks s = 2 → Q a → Q b → Q (.t s a b)
/-- some row that lacks so many trees -/
def PreT (f : V → D) (Q : T V → Prop) (row : List D) (w : Nat) : Prop := ∀ ts : List (T V), ts.length = w → (∀ t ∈ ts, Q t) → ∃ t, Q t ∧ t.row f = row ++ (ts.map (T.row f)).flatten
theorem PreT.start (f : V → D) (Q : T V → Prop) : PreT f Q [] 1 := by
  intro ts hl hq
  match ts, hl with
  | [t], _ => exact ⟨t, hq t (by simp), by simp⟩
theorem PreT.fin {f : V → D} {Q : T V → Prop} {row : List D} (h : PreT f Q row 0) : ∃ t, Q t ∧ t.row f = row := by
  obtain ⟨t, h1, h2⟩ := h [] rfl (by simp)
  exact ⟨t, h1, by simpa using h2⟩
theorem PreT.hole {f : V → D} {Q : T V → Prop} {row : List D} {w : Nat} (h : PreT f Q row (w + 1)) {x : V} (hx : Q (.v x)) : PreT f Q (row ++ [f x]) w := by
  intro ts hl hq
  obtain ⟨t, h1, h2⟩ := h (.v x :: ts) (by simp [hl]) (by simpa using ⟨hx, hq⟩)
  exact ⟨t, h1, by simpa [T.row] using h2⟩
theorem PreT.sign {f : V → D} {Q : T V → Prop} {ks : List Int} (cl : Cl ks Q) (hk : ∀ k ∈ ks, 0 ≤ k ∧ k ≤ 2) {row : List D} {w : Nat} (h : PreT f Q row (w + 1)) {s : Int} (h0 : 0 ≤ s) (h1 : s < ks.length) : PreT f Q (row ++ [.int s]) (w + (gi ks s).toNat) := by
  intro ts hl hq
  have hg := hk _ (gi_mem h0 h1)
  have : gi ks s = 0 ∨ gi ks s = 1 ∨ gi ks s = 2 := by omega
  rcases this with e | e | e
  · rw [e] at hl
    obtain ⟨t, h2, h3⟩ := h (.z s :: ts) (by simp at hl ⊢; exact hl) (by simpa using ⟨cl.z s h0 h1 e, hq⟩)
    exact ⟨t, h2, by simpa [T.row] using h3⟩
  · rw [e] at hl
    match ts, hl, hq with
    | a :: ts, hl, hq =>
      obtain ⟨t, h2, h3⟩ := h (.o s a :: ts) (by simp at hl ⊢; omega) (by
        intro x hx
        rcases List.mem_cons.mp hx with rfl | hx
        · exact cl.o s a h0 h1 e (hq a (by simp))
        · exact hq x (by simp [hx]))
      exact ⟨t, h2, by simpa [T.row] using h3⟩
    | [], hl, _ => simp at hl
  · rw [e] at hl
    match ts, hl, hq with
    | a :: b :: ts, hl, hq =>
      obtain ⟨t, h2, h3⟩ := h (.t s a b :: ts) (by simp at hl ⊢; omega) (by
        intro x hx
        rcases List.mem_cons.mp hx with rfl | hx
        · exact cl.t s a b h0 h1 e (hq a (by simp)) (hq b (by simp))
        · exact hq x (by simp [hx]))
      exact ⟨t, h2, by simpa [T.row] using h3⟩
    | [], hl, _ => simp at hl
    | [a], hl, _ => simp at hl
theorem cl_ok (ks : List Int) : Cl ks (fun t : G0 => t.Ok ks) := ⟨fun s a b c => ⟨⟨a, b⟩, c⟩, fun s x a b c d => ⟨⟨a, b⟩, c, d⟩, fun s x y a b c d e => ⟨⟨a, b⟩, c, d, e⟩⟩
theorem cl_mr (ks : List Int) (n kd : Int) : Cl ks (MrOk ks n kd) := ⟨fun s a b c => ⟨⟨⟨a, b⟩, c⟩, trivial⟩, fun s x a b c d => ⟨⟨⟨a, b⟩, c, d.ok⟩, d.all⟩, fun s x y a b c d e => ⟨⟨⟨a, b⟩, c, d.ok, e.ok⟩, d.all, e.all⟩⟩
/-- numbers of kids that a book may have -/
structure KsOk (ks : List Int) : Prop where
  two : ∀ k ∈ ks, 0 ≤ k ∧ k ≤ 2
  leaf : ∃ i : Int, 0 ≤ i ∧ i < ks.length ∧ gi ks i = 0
  most : ks.length ≤ 6
/-- the first letter -/
def hc (z : Str) : Nat := z.cps.toList.headD 0
/-- a drawn list of signs -/
structure Sg.Dr (sg : Sg) : Prop where
  two : 2 ≤ sg.length
  six : sg.length ≤ 6
  name : ∀ p ∈ sg, 1 ≤ p.1.length ∧ p.1.length ≤ 2 ∧ ∀ c ∈ p.1.cps.toList, 97 ≤ c ∧ c < 123
  nd : (sg.map fun p => hc p.1).Nodup
  noz : ∀ p ∈ sg, hc p.1 ≠ 122
  kid : ∀ p ∈ sg, 0 ≤ p.2 ∧ p.2 ≤ 2
  leaf : ∃ p ∈ sg, p.2 = 0
def Sg.ks (sg : Sg) : List Int := sg.map (·.2)
theorem nodup_of_map {α β : Type} (f : α → β) {l : List α} (h : (l.map f).Nodup) : l.Nodup := by
  induction l with
  | nil => simp
  | cons x l ih =>
    rw [List.map_cons, List.nodup_cons] at h
    rw [List.nodup_cons]
    exact ⟨fun q => h.1 (List.mem_map.mpr ⟨x, q, rfl⟩), ih h.2⟩
theorem Sg.Dr.ok {sg : Sg} (h : sg.Dr) : sg.Ok := ⟨by have := h.two; omega, h.six, fun p hp => by
  obtain ⟨a, b, c⟩ := h.name p hp
  exact ⟨a, by omega, c⟩, by
  refine nodup_of_map hc ?_
  rw [List.map_map]
  exact h.nd, h.kid, h.leaf⟩
theorem Sg.Ok.ks {sg : Sg} (h : sg.Ok) : KsOk sg.ks := ⟨fun k hk => by
  obtain ⟨p, hp, rfl⟩ := List.mem_map.mp hk
  exact h.kid p hp, by
  obtain ⟨p, hp, hz⟩ := h.leaf
  obtain ⟨i, hi, he⟩ := List.mem_iff_getElem.mp hp
  refine ⟨i, by omega, by simp [Sg.ks]; exact hi, ?_⟩
  simp [gi, Sg.ks, hi, he, hz], by simp [Sg.ks]; exact h.six⟩
theorem Sg.bk_ks (sg : Sg) : sg.bk.ks = sg.ks := rfl
end TT

/-! plain: drawn signs -/
namespace TT
open PySem (Str)
theorem hc_noz (x : Int) (h0 : 0 ≤ x) (h1 : x < 24) : (7 * x + 13) % 26 ≠ 25 := by
  have : ∀ y : Fin 24, (7 * (y.1 : Int) + 13) % 26 ≠ 25 := by decide
  have := this ⟨x.toNat, by omega⟩
  rwa [show ((x.toNat : Nat) : Int) = x by omega] at this
theorem hc_inj (x z : Int) (h0 : 0 ≤ x) (h1 : x < 24) (g0 : 0 ≤ z) (g1 : z < 24) (h : (7 * x + 13) % 26 = (7 * z + 13) % 26) : x = z := by
  have : ∀ y w : Fin 24, (7 * (y.1 : Int) + 13) % 26 = (7 * (w.1 : Int) + 13) % 26 → y = w := by decide
  have := this ⟨x.toNat, by omega⟩ ⟨z.toNat, by omega⟩
  simp only [show ((x.toNat : Nat) : Int) = x by omega, show ((z.toNat : Nat) : Int) = z by omega, Fin.mk.injEq] at this
  have := this h
  omega
/-- a drawn sign -/
structure DrAt (leaf : Int) (i : Int) (x : Str × Int) : Prop where
  hd : ∃ e : Int, 0 ≤ e ∧ e < 4 ∧ (hc x.1 : Int) = 97 + (7 * (4 * i + e) + 13) % 26
  name : 1 ≤ x.1.length ∧ x.1.length ≤ 2 ∧ ∀ c ∈ x.1.cps.toList, 97 ≤ c ∧ c < 123
  kid : 0 ≤ x.2 ∧ x.2 ≤ 2
  leaf : i = leaf → x.2 = 0
theorem sg_dr (sg : Sg) (leaf : Int) (h2 : 2 ≤ sg.length) (h6 : sg.length ≤ 6) (l0 : 0 ≤ leaf) (l1 : leaf < sg.length) (h : ∀ (i : Nat) (x : Str × Int), sg[i]? = some x → DrAt leaf i x) : sg.Dr := by
  have mem : ∀ x ∈ sg, ∃ i : Nat, i < sg.length ∧ sg[i]? = some x := by
    intro x hx
    obtain ⟨i, hi⟩ := List.getElem?_of_mem hx
    exact ⟨i, (List.getElem?_eq_some_iff.mp hi).1, hi⟩
  refine ⟨h2, h6, ?_, ?_, ?_, ?_, ?_⟩
  · intro x hx
    obtain ⟨i, _, hi⟩ := mem x hx
    exact (h i x hi).name
  · rw [List.Nodup, List.pairwise_iff_getElem]
    intro i j hi hj hij
    rw [List.length_map] at hi hj
    simp only [List.getElem_map]
    have e1 : sg[i]? = some sg[i] := List.getElem?_eq_getElem (by omega)
    have e2 : sg[j]? = some sg[j] := List.getElem?_eq_getElem (by omega)
    obtain ⟨a, a0, a1, a2⟩ := (h i _ e1).hd
    obtain ⟨b, b0, b1, b2⟩ := (h j _ e2).hd
    intro q
    rw [q] at a2
    have := hc_inj (4 * i + a) (4 * j + b) (by omega) (by omega) (by omega) (by omega) (by omega)
    omega
  · intro x hx
    obtain ⟨i, hl, hi⟩ := mem x hx
    obtain ⟨a, a0, a1, a2⟩ := (h i x hi).hd
    intro q
    rw [q] at a2
    exact hc_noz (4 * i + a) (by omega) (by omega) (by omega)
  · intro x hx
    obtain ⟨i, _, hi⟩ := mem x hx
    exact (h i x hi).kid
  · have : leaf.toNat < sg.length := by omega
    refine ⟨sg[leaf.toNat], List.getElem_mem _, ?_⟩
    exact (h leaf.toNat _ (List.getElem?_eq_getElem this)).leaf (by omega)
end TT

/-! plain: readers, choices -/
namespace TT
variable {V : Type}
/-- a row's place in a table -/
def sumUp (n : Int) (row : List Int) : Int := row.foldl (fun a x => a * n + x) 0
/-- all choices of so many -/
def chs {α : Type} (xs : List α) : Nat → List (List α)
  | 0 => [[]]
  | c + 1 => ((chs xs c).map fun r => xs.map fun x => r ++ [x]).flatten
theorem flat_len {α β : Type} (f : α → List β) (m : Nat) : ∀ l : List α, (∀ x ∈ l, (f x).length = m) → ((l.map f).flatten).length = l.length * m
  | [], _ => by simp
  | x :: l, h => by
    simp only [List.map_cons, List.flatten_cons, List.length_append, List.length_cons]
    rw [h x (by simp), flat_len f m l fun y hy => h y (by simp [hy]), Nat.succ_mul]
    omega
theorem chs_len {α : Type} (xs : List α) : ∀ c : Nat, (chs xs c).length = xs.length ^ c
  | 0 => by simp [chs]
  | c + 1 => by
    unfold chs
    rw [flat_len _ xs.length _ (by simp), chs_len xs c, Nat.pow_succ]
theorem chs_mem {α : Type} {xs : List α} : ∀ {c : Nat} {r : List α}, r ∈ chs xs c ↔ r.length = c ∧ ∀ x ∈ r, x ∈ xs
  | 0, r => by
    simp only [chs, List.mem_singleton]
    constructor
    · rintro rfl; simp
    · intro h; exact List.length_eq_zero_iff.mp h.1
  | c + 1, r => by
    simp only [chs, List.mem_flatten, List.mem_map]
    constructor
    · rintro ⟨l, ⟨q, hq, rfl⟩, hl⟩
      obtain ⟨x, hx, rfl⟩ := List.mem_map.mp hl
      obtain ⟨h1, h2⟩ := chs_mem.mp hq
      refine ⟨by simp [h1], fun y hy => ?_⟩
      rcases List.mem_append.mp hy with hy | hy
      · exact h2 y hy
      · rw [List.mem_singleton] at hy; rw [hy]; exact hx
    · rintro ⟨h1, h2⟩
      have ne : r ≠ [] := fun e => by subst e; simp at h1
      refine ⟨_, ⟨r.dropLast, chs_mem.mpr ⟨by simp [h1], fun x hx => h2 x ((List.dropLast_sublist r).subset hx)⟩, rfl⟩, ?_⟩
      exact List.mem_map.mpr ⟨r.getLast ne, h2 _ (List.getLast_mem ne), List.dropLast_concat_getLast ne⟩
theorem chs_map {α β : Type} (f : α → β) (xs : List α) : ∀ c : Nat, chs (xs.map f) c = (chs xs c).map (List.map f)
  | 0 => rfl
  | c + 1 => by
    simp only [chs, chs_map f xs c, List.map_map, List.map_flatten]
    congr 1
    refine List.map_congr_left fun r _ => ?_
    simp [Function.comp_def]
theorem chs0 {α : Type} (xs : List α) : chs xs 0 = [[]] := rfl
theorem chs1 {α : Type} (xs : List α) : chs xs 1 = xs.map fun x => [x] := by simp [chs]
theorem chs2 {α : Type} (xs : List α) : chs xs 2 = (xs.map fun x => xs.map fun y => [x, y]).flatten := by
  show ((chs xs 1).map _).flatten = _
  rw [chs1, List.map_map]
  rfl
theorem flat_at {α β : Type} [Inhabited β] (f : α → List β) (m : Nat) : ∀ (l : List α) (i j : Nat) (x : α), (∀ x ∈ l, (f x).length = m) → l[i]? = some x → j < m → ((l.map f).flatten)[i * m + j]? = (f x)[j]?
  | [], i, j, x, _, h, _ => by simp at h
  | y :: l, 0, j, x, h, hx, hj => by
    simp only [List.getElem?_cons_zero, Option.some.injEq] at hx
    subst hx
    simp only [List.map_cons, List.flatten_cons, Nat.zero_mul, Nat.zero_add]
    rw [List.getElem?_append_left (by rw [h y (by simp)]; exact hj)]
  | y :: l, i + 1, j, x, h, hx, hj => by
    simp only [List.getElem?_cons_succ] at hx
    simp only [List.map_cons, List.flatten_cons]
    have e := h y (by simp)
    rw [List.getElem?_append_right (by rw [e, Nat.succ_mul]; omega), e, show (i + 1) * m + j - m = i * m + j by rw [Nat.succ_mul]; omega]
    exact flat_at f m l i j x (fun z hz => h z (by simp [hz])) hx hj
theorem gi_of {α : Type} [Inhabited α] {l : List α} {i : Nat} {x : α} (h : l[i]? = some x) : gi l (i : Int) = x := by
  unfold gi
  simp [List.getD, h]
theorem gi_map {α β : Type} [Inhabited α] [Inhabited β] (f : α → β) {l : List α} {i : Int} (h0 : 0 ≤ i) (h1 : i < l.length) : gi (l.map f) i = f (gi l i) := by
  obtain ⟨n, rfl⟩ := Int.eq_ofNat_of_zero_le h0
  have : n < l.length := by omega
  rw [gi_of (x := f l[n]) (by simp [this]), gi_of (x := l[n]) (by simp [this])]
/-- .. of one, of two -/
theorem chs1_at {α : Type} [Inhabited α] {xs : List α} {i : Int} (h0 : 0 ≤ i) (h1 : i < xs.length) : gi (chs xs 1) i = [gi xs i] := by
  rw [chs1, gi_map _ h0 h1]
theorem chs2_at {α : Type} [Inhabited α] {xs : List α} {i j : Int} (h0 : 0 ≤ i) (h1 : i < xs.length) (j0 : 0 ≤ j) (j1 : j < xs.length) : gi (chs xs 2) (i * xs.length + j) = [gi xs i, gi xs j] := by
  obtain ⟨n, rfl⟩ := Int.eq_ofNat_of_zero_le h0
  obtain ⟨m, rfl⟩ := Int.eq_ofNat_of_zero_le j0
  have hn : n < xs.length := by omega
  have hm : m < xs.length := by omega
  rw [chs2]
  have e := flat_at (fun x => xs.map fun y => [x, y]) xs.length xs n m xs[n] (by simp) (by simp [hn]) hm
  rw [show ((n : Int) * xs.length + m) = ((n * xs.length + m : Nat) : Int) by simp]
  rw [gi_of (x := [xs[n], xs[m]]) (by rw [e]; simp [hm]), gi_of (x := xs[n]) (by simp [hn]), gi_of (x := xs[m]) (by simp [hm])]
theorem sum_range (n : Nat) : ∀ {c : Nat} {r : List Int}, r.length = c → (∀ x ∈ r, 0 ≤ x ∧ x < n) → 0 ≤ sumUp n r ∧ sumUp n r < (n ^ c : Nat) := by
  intro c r
  suffices go : ∀ (r : List Int) (a : Int) (k : Nat), 0 ≤ a → a < (n ^ k : Nat) → (∀ x ∈ r, 0 ≤ x ∧ x < n) → 0 ≤ r.foldl (fun a x => a * (n : Int) + x) a ∧ r.foldl (fun a x => a * (n : Int) + x) a < (n ^ (k + r.length) : Nat) by
    intro h hx
    have := go r 0 0 (by omega) (by simp) hx
    rw [Nat.zero_add, h] at this
    exact this
  intro r
  induction r with
  | nil => intro a k h0 h1 _; exact ⟨h0, h1⟩
  | cons x r ih =>
    intro a k h0 h1 hx
    have hx0 := hx x (by simp)
    have ha : a * (n : Int) ≤ ((n ^ k : Nat) - 1 : Int) * n := Int.mul_le_mul_of_nonneg_right (by omega) (by omega)
    have h2 : 0 ≤ a * (n : Int) := Int.mul_nonneg h0 (by omega)
    have h3 : ((n ^ k : Nat) - 1 : Int) * n = (n ^ (k + 1) : Nat) - n := by
      rw [Nat.pow_succ, Int.sub_mul]; simp
    have := ih (a * n + x) (k + 1) (by omega) (by omega) (fun y hy => hx y (by simp [hy]))
    simp only [List.foldl_cons, List.length_cons]
    rw [show k + (r.length + 1) = k + 1 + r.length by omega]
    exact this
theorem sum1 (n x : Int) : sumUp n [x] = x := by simp [sumUp]
theorem sum2 (n x y : Int) : sumUp n [x, y] = x * n + y := by simp [sumUp]
/-- a reader -/
structure Rd where
  bk : Bk
  n : Nat
  tabs : List (List Int)
  lk : List Int
/-- the place to which a sign leads -/
def Rd.lead (r : Rd) (sg : Int) (row : List Int) : Int := gi (gi r.tabs sg) (sumUp r.n row)
structure Rd.Ok (r : Rd) : Prop where
  bk : r.bk.Ok
  pos : 1 ≤ r.n
  len : r.tabs.length = r.bk.ks.length
  tab : ∀ sg : Int, 0 ≤ sg → sg < r.bk.ks.length → (gi r.tabs sg).length = r.n ^ (gi r.bk.ks sg).toNat ∧ ∀ x ∈ gi r.tabs sg, 0 ≤ x ∧ x < r.n
  most : r.n ≤ 100
theorem Rd.Ok.at_ {r : Rd} (h : r.Ok) {sg : Int} (h0 : 0 ≤ sg) (h1 : sg < r.bk.ks.length) {row : List Int} (hl : (row.length : Int) = gi r.bk.ks sg) (hx : ∀ x ∈ row, 0 ≤ x ∧ x < r.n) :
    0 ≤ sumUp r.n row ∧ sumUp r.n row < (gi r.tabs sg).length := by
  have := sum_range r.n (c := (gi r.bk.ks sg).toNat) (r := row) (by omega) hx
  rw [(h.tab sg h0 h1).1]
  exact this
theorem Rd.Ok.lead {r : Rd} (h : r.Ok) {sg : Int} (h0 : 0 ≤ sg) (h1 : sg < r.bk.ks.length) {row : List Int} (hl : (row.length : Int) = gi r.bk.ks sg) (hx : ∀ x ∈ row, 0 ≤ x ∧ x < r.n) :
    0 ≤ r.lead sg row ∧ r.lead sg row < r.n := by
  obtain ⟨a, b⟩ := h.at_ h0 h1 hl hx
  exact (h.tab sg h0 h1).2 _ (gi_mem a b)
/-- the mood of a tree with moods in it -/
def Rd.mood (r : Rd) (f : V → Int) : T V → Int
  | .v x => f x
  | .z s => r.lead s []
  | .o s a => r.lead s [r.mood f a]
  | .t s a b => r.lead s [r.mood f a, r.mood f b]
def Rd.moodG (r : Rd) (t : G0) : Int := r.mood (fun e => e.elim) t
def Rd.likes (r : Rd) (t : G0) : Bool := decide (r.moodG t ∈ r.lk)
theorem Rd.Ok.mood {r : Rd} (h : r.Ok) {f : V → Int} (hf : ∀ x, 0 ≤ f x ∧ f x < r.n) (t : T V) : t.Ok r.bk.ks → 0 ≤ r.mood f t ∧ r.mood f t < r.n := by
  induction t with
  | v x => intro _; exact hf x
  | z s => intro ht; exact h.lead ht.1.1 ht.1.2 (by simp [ht.2]) (by simp)
  | o s a ih => intro ht; exact h.lead ht.1.1 ht.1.2 (by simp [ht.2.1]) (by simpa using ih ht.2.2)
  | t s a b iha ihb => intro ht; exact h.lead ht.1.1 ht.1.2 (by simp [ht.2.1]) (by simpa using ⟨iha ht.2.2.1, ihb ht.2.2.2⟩)
theorem Rd.Ok.moodG {r : Rd} (h : r.Ok) (t : G0) (ht : t.Ok r.bk.ks) : 0 ≤ r.moodG t ∧ r.moodG t < r.n := h.mood (fun e => e.elim) t ht
/-- what a way of leading comes to at a tree -/
def foldH (hl : Int → List D → D) : G0 → D
  | .z s => hl s []
  | .o s a => hl s [foldH hl a]
  | .t s a b => hl s [foldH hl a, foldH hl b]
end TT

set_option maxRecDepth 10000
namespace G
open TT
def oBook (b : Bk) : D := .obj C_Book [A_names_told, A_kids_told] [.lst (b.ns.map .str), .lst (b.ks.map .int)]
@[simp] theorem objOf_oBook (b : Bk) (s : Sto) : objOf s (.d (oBook b)) = some (C_Book, [A_names_told, A_kids_told], [.lst (b.ns.map .str), .lst (b.ks.map .int)]) := (rfl)
@[simp] theorem Book_many (k : Nat) (b : Bk) (s : Sto) : call prog (k + 1) F_Book_many [.d (oBook b)] s = .ok (.d (.int b.ns.length)) s := by
  rw [at_Book_many]
  simp [runN_eq, b_Book_many]
theorem Book_kids (k : Nat) (b : Bk) (i : Int) (h0 : 0 ≤ i) (h1 : i < b.ks.length) (s : Sto) : call prog (k + 1) F_Book_kids [.d (oBook b), .d (.int i)] s = .ok (.d (.int (gi b.ks i))) s := by
  rw [at_Book_kids]
  simp [runN_eq, b_Book_kids, look_cons, atI_ok h0 h1]
theorem end_of_loop (k : Nat) (b : Bk) (hb : b.Ok) (row : List Int) (a : D) (s : Sto) (g : List D) (n : Nat) : ∀ (xs pre : List Int) (w : Int), row = pre ++ xs → ∃ q, forG (cx prog (k + 1)) n (.nm 4) [4] l_end_of_1 (g, none) (rngD pre.length row.length) [some (.d (oBook b)), some (.d (.tup (row.map .int))), some (.d a), some (.d (.int w)), none] s = .ok q s ∧ (q.1 = .nx ∧ endOf b.ks xs w pre.length = -1 ∨ q.1 = .ret (.d (.int (endOf b.ks xs w pre.length)))) := by
  intro xs
  induction xs with
  | nil =>
    intro pre w h
    simp [rngD_nil, h, endOf]
  | cons x xs ih =>
    intro pre w h
    have hx : atI row pre.length = some x := by rw [h]; exact atI_mid _ _ _
    have := ih (pre ++ [x]) (w + gi b.ks x - 1) (by simp [h])
    simp only [List.length_append, List.length_cons, List.length_nil] at this
    rw [rngD_cons (by simp [h]; omega)]
    by_cases hc : 0 ≤ x ∧ x < b.ks.length
    · by_cases hw : w + gi b.ks x - 1 = 0
      · simp [forG_cons, u_end_of_1, hx, hc.1, hc.2, hb.1, Book_kids, hw, endOf, fair, D.pl]
      · simp [forG_cons, u_end_of_1, hx, hc.1, hc.2, hb.1, Book_kids, hw, endOf, fair, D.pl]
        simpa using this
    · by_cases h0 : 0 ≤ x
      · have : ¬ (x < b.ks.length) := fun q => hc ⟨h0, q⟩
        simp [forG_cons, u_end_of_1, hx, h0, this, hb.1, endOf]
      · simp [forG_cons, u_end_of_1, hx, h0, hb.1, endOf]
theorem end_of_at (k : Nat) (b : Bk) (hb : b.Ok) (pre xs : List Int) (hr : (pre ++ xs).length < 1000000) (s : Sto) : call prog (k + 2) F_end_of [.d (oBook b), .d (.tup ((pre ++ xs).map .int)), .d (.int pre.length)] s = .ok (.d (.int (endOf b.ks xs 1 pre.length))) s := by
  obtain ⟨⟨fl, e'⟩, h1, h2⟩ := end_of_loop k b hb (pre ++ xs) (.int pre.length) s (rngD pre.length (pre ++ xs).length) s.length xs pre 1 rfl
  have o1 : okQ pre.length = true := @okQ_of _ (by omega) (by simp at hr; omega)
  have o2 : okQ (pre ++ xs).length = true := @okQ_of _ (by omega) (by omega)
  simp only [List.length_append, List.map_append, Int.natCast_add] at h1 o2
  rw [at_end_of]
  rcases h2 with ⟨h3, h4⟩ | h3
  · simp at h3
    simp [runN_eq, b_end_of, o1, o2, h1, h3, h4]
  · simp at h3
    simp [runN_eq, b_end_of, o1, o2, h1, h3]
theorem end_of_0 (k : Nat) (b : Bk) (hb : b.Ok) (row : List Int) (hr : row.length < 1000000) (s : Sto) : call prog (k + 2) F_end_of [.d (oBook b), .d (.tup (row.map .int)), .d (.int 0)] s = .ok (.d (.int (endOf b.ks row 1 0))) s := end_of_at k b hb [] row hr s
theorem is_tree_eq (k : Nat) (b : Bk) (hb : b.Ok) (row : List Int) (hr : row.length < 1000000) (s : Sto) : call prog (k + 3) F_is_tree [.d (oBook b), .d (.tup (row.map .int))] s = .ok (.d (.bl (decide (row.length ≤ 40 ∧ endOf b.ks row 1 0 = row.length)))) s := by
  rw [at_is_tree]
  by_cases h : row.length ≤ 40
  · have h' : (row.length : Int) ≤ 40 := by omega
    simp [runN_eq, b_is_tree, h, h', end_of_0 k b hb row hr, fair, D.pl]
  · have h' : ¬ (row.length : Int) ≤ 40 := by omega
    simp [runN_eq, b_is_tree, h, h']
theorem check_tree_eq (k : Nat) (b : Bk) (hb : b.Ok) (row : List Int) (hr : row.length < 1000000) (s : Sto) : call prog (k + 4) F_check_tree [.d (oBook b), .d (.tup (row.map .int))] s = if row.length ≤ 40 ∧ endOf b.ks row 1 0 = row.length then .ok (.d .non) s else .err X_NoTree s := by
  rw [at_check_tree]
  by_cases h : row.length ≤ 40 ∧ endOf b.ks row 1 0 = row.length
  · simp [runN_eq, b_check_tree, is_tree_eq k b hb row hr, h]
  · simp [runN_eq, b_check_tree, is_tree_eq k b hb row hr, h]
theorem check_tree_ok (k : Nat) (b : Bk) (hb : b.Ok) (t : G0) (ht : t.Ok b.ks) (h : t.size ≤ 40) (s : Sto) : call prog (k + 4) F_check_tree [.d (oBook b), .d (tD t)] s = .ok (.d .non) s := by
  unfold tD
  rw [check_tree_eq k b hb _ (by rw [T.nums_len]; omega), if_pos]
  have := endOf_self b.ks t ht [] 0
  rw [List.append_nil] at this
  rw [this, T.nums_len]
  exact ⟨h, by simp⟩
end G

set_option maxRecDepth 10000
namespace G
open TT
variable {V U : Type}
/-- a hand: what it leads to are trees, told by enc -/
structure Hand (K : Nat) (hd : D) (ks : List Int) (enc : T U → D) : Prop where
  ob : ∃ cl as vs f, (∀ s, objOf s (.d hd) = some (cl, as, vs)) ∧ prog.meth cl M_lead = some f ∧
    (∀ sg, (T.z sg : T U).Ok ks → ∀ k s, call prog (k + K) f [.d hd, .d (.int sg), .d (.tup [])] s = .ok (.d (enc (.z sg))) s) ∧
    (∀ sg a, (T.o sg a : T U).Ok ks → ∀ k s, call prog (k + K) f [.d hd, .d (.int sg), .d (.tup [enc a])] s = .ok (.d (enc (.o sg a))) s) ∧
    (∀ sg a b, (T.t sg a b : T U).Ok ks → ∀ k s, call prog (k + K) f [.d hd, .d (.int sg), .d (.tup [enc a, enc b])] s = .ok (.d (enc (.t sg a b))) s)
theorem folded_loop {K : Nat} {hd : D} {b : Bk} (hb : b.Ok) {enc : T U → D} (H : Hand (K + 1) hd b.ks enc) (k n : Nat) (s : Sto) (gv : W) (gks gvs : List D) (hg : ∀ r, dctOf (s ++ r) gv = some (1, gks, gvs)) (σ : Int × Int → T U) (rw : W) (g0 : List D) (m : Mr) :
    ∀ (rest st : List D), m.Ok b.ks → (m.All fun x => (σ x).Ok b.ks ∧ look (hD x) gks gvs = some (enc (σ x))) → st.length + m.size ≤ 10000 →
    forG (cx prog (k + K + 1)) n (.nm 5) [5, 6, 7] l_folded_1 (g0, none) ((m.row hD).reverse ++ rest) [some (.d (oBook b)), some rw, some (.d hd), some gv, some (.loc s.length), none, none, none] (s ++ [.lst st]) = forG (cx prog (k + K + 1)) n (.nm 5) [5, 6, 7] l_folded_1 (g0, none) rest [some (.d (oBook b)), some rw, some (.d hd), some gv, some (.loc s.length), none, none, none] (s ++ [.lst (st ++ [enc (m.sub σ)])]) := by
  obtain ⟨cl, as, vs, f, ho, hf, hz, hn, ht⟩ := H
  simp only [← Nat.add_assoc] at hz hn ht
  induction m with
  | v x =>
    intro rest st hm ha hl
    have hq : keysOk 1 (hD x) = true := rfl
    have h1 := ha.2
    simp only [T.size] at hl
    have hs : sm st.length = true := sm_of (by omega)
    simp only [hD] at hq h1
    simp [T.row, forG_cons, u_folded_1, hD, T.sub, hg, hq, h1, hs]
  | z sg =>
    intro rest st hm ha hl
    simp only [T.size] at hl
    have hs : sm st.length = true := sm_of (by omega)
    simp [T.row, forG_cons, u_folded_1, T.sub, hs, Book_kids, hm.1.1, hm.1.2, hm.2, rngD00, finC, ho, hf, hz sg hm]
  | o sg a ih =>
    intro rest st hm ha hl
    simp only [T.size] at hl
    have hs : sm st.length = true := sm_of (by omega)
    have := ih (D.int sg :: rest) st hm.2.2 ha (by omega)
    simp [T.row, this]
    have h0 : (T.o sg (a.sub σ)).Ok b.ks := ⟨hm.1, hm.2.1, T.sub_ok a (ha.mono fun x h => h.1) hm.2.2⟩
    simp [T.row, forG_cons, lcG_cons, lcA, u_folded_1, T.sub, hs, Book_kids, hm.1.1, hm.1.2, hm.2.1, rngD01, finC, ho, hf, hn sg _ h0]
  | t sg a c iha ihb =>
    intro rest st hm ha hl
    simp only [T.size] at hl
    have hs : sm st.length = true := sm_of (by omega)
    have h1 := ihb ((T.row hD a).reverse ++ D.int sg :: rest) st hm.2.2.2 ha.2 (by omega)
    have h2 := iha (D.int sg :: rest) (st ++ [enc (c.sub σ)]) hm.2.2.1 ha.1 (by simp; have := c.size_pos; omega)
    simp [T.row, h1, h2]
    have h0 : (T.t sg (a.sub σ) (c.sub σ)).Ok b.ks := ⟨hm.1, hm.2.1, T.sub_ok a (ha.1.mono fun x h => h.1) hm.2.2.1, T.sub_ok c (ha.2.mono fun x h => h.1) hm.2.2.2⟩
    simp [T.row, forG_cons, lcG_cons, lcA, u_folded_1, T.sub, hs, Book_kids, hm.1.1, hm.1.2, hm.2.1, rngD02, finC, ho, hf, ht sg _ _ h0]

theorem folded_eq {K : Nat} {hd : D} {b : Bk} (hb : b.Ok) {enc : T U → D} (H : Hand (K + 1) hd b.ks enc) (k : Nat) (s : Sto) (gv : W) (gks gvs : List D) (hg : ∀ r, dctOf (s ++ r) gv = some (1, gks, gvs)) (σ : Int × Int → T U) (m : Mr)
    (hm : m.Ok b.ks) (ha : m.All fun x => (σ x).Ok b.ks ∧ look (hD x) gks gvs = some (enc (σ x))) (hl : m.size ≤ 10000) :
    call prog (k + K + 2) F_folded [.d (oBook b), .d (mD m), .d hd, gv] s = .ok (.d (enc (m.sub σ))) s := by
  have h1 := folded_loop hb H k (s.length + 1) s gv gks gvs hg σ (.d (mD m)) (m.row hD).reverse m [] [] hm ha (by simpa using hl)
  simp only [List.append_nil, List.nil_append] at h1
  rw [at_folded]
  unfold mD at h1 ⊢
  have a1 := atI_last [] (enc (m.sub σ))
  rw [List.nil_append] at a1
  simp [runN_eq, b_folded, h1, a1]
/-! Through -/
def oTurner (t : Tn) : D := .obj C_Turner [A_own_book, A_own_goals, A_own_rows] [oBook t.bk, oBook t.gl, .lst (t.rows.map fun some => .lst (some.map mD))]
@[simp] theorem objOf_oTurner (t : Tn) (s : Sto) : objOf s (.d (oTurner t)) = some (C_Turner, [A_own_book, A_own_goals, A_own_rows], [oBook t.bk, oBook t.gl, .lst (t.rows.map fun some => .lst (some.map mD))]) := rfl
@[simp] theorem Turner_book (k : Nat) (t : Tn) (s : Sto) : call prog (k + 1) F_Turner_book [.d (oTurner t)] s = .ok (.d (oBook t.bk)) s := by
  rw [at_Turner_book]
  simp [runN_eq, b_Turner_book]
@[simp] theorem Turner_goals (k : Nat) (t : Tn) (s : Sto) : call prog (k + 1) F_Turner_goals [.d (oTurner t)] s = .ok (.d (oBook t.gl)) s := by
  rw [at_Turner_goals]
  simp [runN_eq, b_Turner_goals, look_cons]
@[simp] theorem Turner_states (k : Nat) (t : Tn) (s : Sto) : call prog (k + 1) F_Turner_states [.d (oTurner t)] s = .ok (.d (.int t.n)) s := by
  rw [at_Turner_states]
  simp [runN_eq, b_Turner_states, look_cons, Tn.n]
theorem Turner_row (k : Nat) {t : Tn} (ht : t.Ok) {st sg : Int} (h0 : 0 ≤ st) (h1 : st < t.n) (h2 : 0 ≤ sg) (h3 : sg < t.bk.ks.length) (s : Sto) : call prog (k + 1) F_Turner_row [.d (oTurner t), .d (.int st), .d (.int sg)] s = .ok (.d (mD (t.mr st sg))) s := by
  rw [at_Turner_row]
  have a1 : atI t.rows st = some (gi t.rows st) := atI_ok h0 h1
  have a2 : atI (gi t.rows st) sg = some (t.mr st sg) := atI_ok h2 (by rw [ht.len _ (Tn.row_mem h0 h1)]; exact h3)
  simp [runN_eq, b_Turner_row, look_cons, a1, a2]
def oThrough (t : Tn) (inner : D) : D := .obj C_Through [A_own_turner, A_own_inner] [oTurner t, inner]
@[simp] theorem objOf_oThrough (t : Tn) (i : D) (s : Sto) : objOf s (.d (oThrough t i)) = some (C_Through, [A_own_turner, A_own_inner], [oTurner t, i]) := rfl
theorem of_row_loop1 (k n : Nat) (s : Sto) (kd : Int) (w1 w2 w3 : W) (g : List D) (hk : 0 ≤ kd) : ∀ (vals : List D) (i : Nat) (ks vs : List D) (f : D → Option D), DictIs ks vs f → ks.length + vals.length ≤ 9000 →
    ∃ ks' vs', forG (cx prog k) n (.tp [6, 7]) [6, 7] l_Through_of_row_1 (g, none) (enumD i vals) [some w1, some w2, some w3, some (.loc s.length), some (.d (.int kd)), some (.d (.tup vals)), none, none] (s ++ [.dct 1 ks vs]) = .ok (.nx, [some w1, some w2, some w3, some (.loc s.length), some (.d (.int kd)), some (.d (.tup vals)), none, none]) (s ++ [.dct 1 ks' vs']) ∧ DictIs ks' vs' (given kd i vals f) ∧ ks'.length ≤ ks.length + vals.length := by
  intro vals
  suffices go : ∀ (q : List D) (i : Nat) (ks vs : List D) (f : D → Option D), DictIs ks vs f → ks.length + q.length ≤ 9000 →
    ∃ ks' vs', forG (cx prog k) n (.tp [6, 7]) [6, 7] l_Through_of_row_1 (g, none) (enumD i q) [some w1, some w2, some w3, some (.loc s.length), some (.d (.int kd)), some (.d (.tup vals)), none, none] (s ++ [.dct 1 ks vs]) = .ok (.nx, [some w1, some w2, some w3, some (.loc s.length), some (.d (.int kd)), some (.d (.tup vals)), none, none]) (s ++ [.dct 1 ks' vs']) ∧ DictIs ks' vs' (given kd i q f) ∧ ks'.length ≤ ks.length + q.length from go vals
  intro q
  induction q with
  | nil =>
    intro i ks vs f hf hl
    exact ⟨ks, vs, by simp [enumD], hf, by simp⟩
  | cons v q ih =>
    intro i ks vs f hf hl
    simp only [List.length_cons] at hl
    have hp := putKs_len (D.tup [.int i, .int kd]) ks
    obtain ⟨ks', vs', e, h1, h2⟩ := ih (i + 1) _ _ _ (hf.put (hD (i, kd)) v) (by simp only [hD]; omega)
    refine ⟨ks', vs', ?_, h1, by simp only [hD] at h2; simp; omega⟩
    have hq : keysOk 1 (.tup [.int i, .int kd]) = true := rfl
    have hs : sm ks.length = true := sm_of (by omega)
    rw [← e]
    simp [enumD, forG_cons, u_Through_of_row_1, hq, hs, hD]

theorem of_row_loop2 (k n : Nat) (s : Sto) (w1 w2 w3 : W) (g : List D) : ∀ (kss : List (List D)) (j : Nat) (ks vs : List D) (f : D → Option D), DictIs ks vs f → ks.length + (kss.map List.length).sum ≤ 9000 →
    ∃ ks' vs', forG (cx prog k) n (.tp [4, 5]) [4, 5, 6, 7] l_Through_of_row_2 (g, none) (enumD j (kss.map .tup)) [some w1, some w2, some w3, some (.loc s.length), none, none, none, none] (s ++ [.dct 1 ks vs]) = .ok (.nx, [some w1, some w2, some w3, some (.loc s.length), none, none, none, none]) (s ++ [.dct 1 ks' vs']) ∧ DictIs ks' vs' (given2 j kss f) := by
  intro kss
  induction kss with
  | nil =>
    intro j ks vs f hf hl
    exact ⟨ks, vs, by simp [enumD], hf⟩
  | cons v q ih =>
    intro j ks vs f hf hl
    simp only [List.map_cons, List.sum_cons] at hl
    obtain ⟨ks1, vs1, e1, h1, h2⟩ := of_row_loop1 k (s.length + 1) s j w1 w2 w3 (enumD 0 v) (by omega) v 0 ks vs f hf (by omega)
    obtain ⟨ks2, vs2, e2, h3⟩ := ih (j + 1) _ _ _ h1 (by omega)
    refine ⟨ks2, vs2, ?_, by simpa [given2] using h3⟩
    simp [enumD, forG_cons, u_Through_of_row_2, e1, e2]
theorem of_row_eq {K : Nat} {tn : Tn} (ht : tn.Ok) {inner : D} {enc : T U → D} (H : Hand (K + 1) inner tn.gl.ks enc) (k : Nat) (s : Sto) (m : Mr) (hm : m.Ok tn.gl.ks) (hl : m.size ≤ 10000) (kss : List (List D)) (hk : (kss.map List.length).sum ≤ 9000) (σ : Int × Int → T U)
    (ha : m.All fun x => (σ x).Ok tn.gl.ks ∧ (0 ≤ x.2 ∧ x.2 < kss.length ∧ 0 ≤ x.1 ∧ x.1 < (gi kss x.2).length) ∧ gi (gi kss x.2) x.1 = enc (σ x)) :
    call prog (k + K + 3) F_Through_of_row [.d (oThrough tn inner), .d (mD m), .d (.tup (kss.map .tup))] s = .ok (.d (enc (m.sub σ))) s := by
  rw [at_Through_of_row]
  obtain ⟨ks1, vs1, e1, h1⟩ := of_row_loop2 (k + K + 2) (s.length + 1) s (.d (oThrough tn inner)) (.d (mD m)) (.d (.tup (kss.map .tup))) (enumD 0 (kss.map .tup)) kss 0 [] [] _ DictIs.nil (by simpa using hk)
  have h2 := folded_eq ht.gl H k (s ++ [.dct 1 ks1 vs1]) (.loc s.length) ks1 vs1 (by intro r; simp) σ m hm (ha.mono fun x h => ⟨h.1, by
    rw [h1.get, given2_at, if_pos (by simp; omega)]
    simpa using h.2.2⟩) hl
  simp [runN_eq, b_Through_of_row, e1, look_cons, h2]
/-- what Through leads to -/
def tEnc (tn : Tn) (lv : Int → V → T U) (enc : T U → D) (x : T V) : D := .tup (states tn.n fun st => enc (turn tn.mr lv x st))
theorem lead_loop {K : Nat} {tn : Tn} (ht : tn.Ok) {inner : D} {enc : T U → D} (H : Hand (K + 1) inner tn.gl.ks enc) (k n : Nat) (s : Sto) (g : List D) (kss : List (List D)) (hk : (kss.map List.length).sum ≤ 9000) (sg : Int) (h0 : 0 ≤ sg) (h1 : sg < tn.bk.ks.length) (f : Int → T U)
    (ha : ∀ st, 0 ≤ st → st < tn.n → ∃ σ, f st = (tn.mr st sg).sub σ ∧ (tn.mr st sg).All fun x => (σ x).Ok tn.gl.ks ∧ (0 ≤ x.2 ∧ x.2 < kss.length ∧ 0 ≤ x.1 ∧ x.1 < (gi kss x.2).length) ∧ gi (gi kss x.2) x.1 = enc (σ x)) :
    call prog (k + K + 4) F_Through_lead [.d (oThrough tn inner), .d (.int sg), .d (.tup (kss.map .tup))] s = .ok (.d (.tup (states tn.n fun st => enc (f st)))) s := by
  rw [at_Through_lead]
  have hn : 0 ≤ tn.n ∧ tn.n ≤ 4000 := by have := ht.most; unfold Tn.n; omega
  have e := forG_rng (c := cx prog (k + K + 3)) (n := s.length + 1) (tg := .nm 4) (kill := [4]) (body := l_Through_lead_1) (g := (rngD 0 tn.n, none))
    (fun _ => [some (.d (oThrough tn inner)), some (.d (.int sg)), some (.d (.tup (kss.map .tup))), some (.loc s.length), none]) (fun j => s ++ [.lst (states j fun st => enc (f st))]) (i := 0) (m := tn.n) hn.1 (fun j r j0 j1 => by
      obtain ⟨σ, e, hσ⟩ := ha j j0 j1
      have e1 := of_row_eq ht H k (s ++ [.lst (states j fun st => enc (f st))]) (tn.mr j sg) (ht.mr j sg j0 j1 h0 h1).ok (by have := Tn.mr_size ht j0 j1 h0 h1; omega) kss hk σ hσ
      have hs : sm (states j fun st => enc (f st)).length = true := sm_of (by rw [states_len]; omega)
      rw [states_succ j0, e]
      simp [forG_cons, u_Through_lead_1, look_cons, Turner_row _ ht j0 j1 h0 h1, e1, hs])
  rw [states_zero] at e
  have ho : okQ tn.n = true := okQ_of (by omega) (by omega)
  simp [runN_eq, b_Through_lead, look_cons, ho, e]
end G

set_option maxRecDepth 10000
namespace G
open TT
variable {V U : Type}
theorem Hand.mono {K : Nat} {hd : D} {ks : List Int} {enc : T U → D} (H : Hand K hd ks enc) (j : Nat) : Hand (K + j) hd ks enc := by
  obtain ⟨cl, as, vs, f, ho, hf, hz, hn, ht⟩ := H
  refine ⟨cl, as, vs, f, ho, hf, fun sg h k s => ?_, fun sg a h k s => ?_, fun sg a b h k s => ?_⟩
  · rw [show k + (K + j) = k + j + K by omega]; exact hz sg h _ s
  · rw [show k + (K + j) = k + j + K by omega]; exact hn sg a h _ s
  · rw [show k + (K + j) = k + j + K by omega]; exact ht sg a b h _ s
theorem through_hand {K : Nat} {tn : Tn} (ht : tn.Ok) {inner : D} {enc : T U → D} (H : Hand (K + 1) inner tn.gl.ks enc) (lv : Int → V → T U) (hlv : ∀ st x, 0 ≤ st → st < tn.n → (lv st x).Ok tn.gl.ks) : Hand (K + 4) (oThrough tn inner) tn.bk.ks (tEnc tn lv enc) := by
  have hn : 0 ≤ tn.n ∧ tn.n ≤ 4000 := by have := ht.most; unfold Tn.n; omega
  refine ⟨C_Through, _, _, F_Through_lead, fun s => objOf_oThrough _ _ s, by simp, fun sg h k s => ?_, fun sg a h k s => ?_, fun sg a b h k s => ?_⟩
  · have := lead_loop ht H k 0 s [] [] (by simp) sg h.1.1 h.1.2 (fun st => turn tn.mr lv (.z sg) st) (fun st j0 j1 => ⟨_, rfl, (ht.mr st sg j0 j1 h.1.1 h.1.2).all.mono fun x hx => by
      have := h.2; omega⟩)
    rw [← Nat.add_assoc]
    exact this
  · have := lead_loop ht H k 0 s [] [states tn.n fun st => enc (turn tn.mr lv a st)] (by simp [states_len]; omega) sg h.1.1 h.1.2 (fun st => turn tn.mr lv (.o sg a) st) (fun st j0 j1 => ⟨_, rfl, (ht.mr st sg j0 j1 h.1.1 h.1.2).all.mono fun x hx => by
      have h1 := h.2.1
      have h2 : x.2 = 0 := by omega
      refine ⟨turn_ok ht hlv a h.2.2 _ hx.1.1 hx.1.2, ?_⟩
      simp only [h2, gi, Int.toNat_zero, List.getD_cons_zero]
      have h3 := gi_states hx.1.1 hx.1.2 fun st => enc (turn tn.mr lv a st)
      simp only [gi] at h3
      refine ⟨?_, h3⟩
      simp [states_len]; omega⟩)
    rw [← Nat.add_assoc]
    exact this
  · have := lead_loop ht H k 0 s [] [states tn.n fun st => enc (turn tn.mr lv a st), states tn.n fun st => enc (turn tn.mr lv b st)] (by simp [states_len]; omega) sg h.1.1 h.1.2 (fun st => turn tn.mr lv (.t sg a b) st) (fun st j0 j1 => ⟨_, rfl, (ht.mr st sg j0 j1 h.1.1 h.1.2).all.mono fun x hx => by
      have h1 := h.2.1
      have h2 : x.2 = 0 ∨ x.2 = 1 := by omega
      rcases h2 with h2 | h2
      · rw [if_pos h2]
        refine ⟨turn_ok ht hlv a h.2.2.1 _ hx.1.1 hx.1.2, ?_⟩
        simp only [h2, gi, Int.toNat_zero, List.getD_cons_zero]
        have h3 := gi_states hx.1.1 hx.1.2 fun st => enc (turn tn.mr lv a st)
        simp only [gi] at h3
        refine ⟨?_, h3⟩
        simp [states_len]; omega
      · rw [if_neg (by omega)]
        refine ⟨turn_ok ht hlv b h.2.2.2 _ hx.1.1 hx.1.2, ?_⟩
        simp only [h2, gi, show (1 : Int).toNat = 1 from rfl, List.getD_cons_succ, List.getD_cons_zero]
        have h3 := gi_states hx.1.1 hx.1.2 fun st => enc (turn tn.mr lv b st)
        simp only [gi] at h3
        refine ⟨?_, h3⟩
        simp [states_len]; omega⟩)
    rw [← Nat.add_assoc]
    exact this
@[simp] theorem Through_init (k : Nat) (a b : D) (s : Sto) : call prog (k + 1) F_Through___init__ [.loc s.length, .d a, .d b] (s ++ [.obj C_Through [] []]) = .ok (.d .non) (s ++ [.obj C_Through [A_own_turner, A_own_inner] [a, b]]) := by
  rw [at_Through___init__]
  simp [runN_eq, b_Through___init__, putKs, putN]
@[simp] theorem new_Through (k : Nat) (t : Tn) (b : D) (s : Sto) : newG (call prog (k + 1)) F_Through___init__ C_Through true [.d (oTurner t), .d b] s = .ok (.d (oThrough t b)) s := newG_ok (Through_init k _ b s)
end G

set_option maxRecDepth 10000
namespace G
open TT
open PySem (Str)
theorem Book_is_like (k : Nat) (a b : Bk) (s : Sto) : call prog (k + 1) F_Book_is_like [.d (oBook a), .d (oBook b)] s = .ok (.d (.bl (decide (a = b)))) s := by
  obtain ⟨an, ak⟩ := a
  obtain ⟨bn, bk⟩ := b
  rw [at_Book_is_like]
  by_cases h : an = bn
  · simp [runN_eq, b_Book_is_like, look_cons, fair_strs, fair_ints, map_str_inj, map_int_inj, h]
  · simp [runN_eq, b_Book_is_like, look_cons, fair_strs, fair_ints, map_str_inj, map_int_inj, h]
theorem must_be_like_eq (k : Nat) (a b : Bk) (s : Sto) : call prog (k + 2) F_must_be_like [.d (oBook a), .d (oBook b)] s = if a = b then .ok (.d .non) s else .err X_Unlike s := by
  rw [at_must_be_like]
  by_cases h : a = b
  · simp [runN_eq, b_must_be_like, Book_is_like, h]
  · simp [runN_eq, b_must_be_like, Book_is_like, h]
theorem inT_LET (c : Nat) (s : Sto) : opSem .inT [.d (.str ⟨#[c]⟩), .d (.str LET)] s = .ok (.w (.d (.bl (decide (97 ≤ c ∧ c < 123))))) s := by
  simp only [opSem, inTx]
  simp only [Bool.false_eq_true, if_false, bl1]
  congr 4
  simp only [decide_eq_decide, LET_mem]
theorem is_name_ok (k : Nat) (z : Str) (h : NameOk z) (s : Sto) : call prog (k + 1) F_is_name [.d (.str z), .d (.int 3)] s = .ok (.d (.bl true)) s := by
  rw [at_is_name]
  have h1 := h.pos
  have h2 := h.most
  have h3 : z.cps.size = z.length := rfl
  have e := lcG_map1 (c := cx prog k) (n := s.length) (tg := .nm 2) (g := (z.cps.toList.map fun c => D.str ⟨#[c]⟩, none)) (ifs := .nil) (elt := .op true .inT (.cons (.v 2) (.cons (.g 0 (.str LET)) .nil))) (e := [some (.d (.str z)), some (.d (.int 3)), none]) (s := s)
    (fun c => D.str ⟨#[c]⟩) (fun c => D.bl (decide (97 ≤ c ∧ c < 123))) z.cps.toList (by simp; omega) (fun c hc acc r ha => by
      simp [lcG_cons, lcA, inT_LET, ha])
  have hs : sm z.length = true := sm_of (by omega)
  have q1 : (1 : Int) ≤ z.length := by omega
  have q2 : (z.length : Int) ≤ 3 := by omega
  have e3 : ∀ x ∈ z.cps.toList, 97 ≤ x ∧ x < 123 := h.lt
  simp only [LET] at e
  simp [runN_eq, b_is_name, TT.o_len_s _ z hs, q1, q2, e, finC, bls_map]
  intro x hx
  exact e3 _ (by simp)
end G
namespace G
open TT
open PySem (Str)
theorem check_book_loop (k n : Nat) (s : Sto) (w : W) (g : List D) (k1 : 0 < k) : ∀ (q p : Sg), (p ++ q).Ok → ∃ c : Int, (p.countP fun x => decide (x.2 = 0)) + (q.countP fun x => decide (x.2 = 0)) = c ∧ forG (cx prog (k + 1)) n (.tp [3, 4]) [3, 4] l_check_book_1 (g, none) (q.map fun x => .tup [.str x.1, .int x.2]) [some w, some (.loc s.length), some (.d (.int (p.countP fun x => decide (x.2 = 0)))), none, none] (s ++ [.lst (p.map fun x => .str x.1)]) = .ok (.nx, [some w, some (.loc s.length), some (.d (.int c)), none, none]) (s ++ [.lst ((p ++ q).map fun x => .str x.1)]) := by
  intro q
  induction q with
  | nil => intro p h; exact ⟨_, rfl, by simp⟩
  | cons x q ih =>
    intro p h
    obtain ⟨c, h1, h2⟩ := ih (p ++ [x]) (by simpa using h)
    refine ⟨c, by
      by_cases hz : x.2 = 0 <;> simp [hz] at h1 ⊢ <;> omega, ?_⟩
    have hx : x ∈ p ++ x :: q := by simp
    have hn := h.name x hx
    have hk := h.kid x hx
    have hnd := h.nd
    have hni : ¬ x.1 ∈ p.map (·.1) := by
      rw [List.map_append, List.nodup_append] at hnd
      intro q2
      exact hnd.2.2 x.1 q2 x.1 (by simp) rfl
    have e1 := pyIn_str x.1 (p.map (·.1))
    rw [List.map_map] at e1
    have hs : sm p.length = true := sm_of (by have := h.six; simp at this; omega)
    rw [show p ++ x :: q = p ++ [x] ++ q by simp, ← h2]
    simp at hni
    by_cases hz : x.2 = 0
    · simp [Function.comp_def, hni] at e1
      simp [forG_cons, u_check_book_1, is_name_ok _ _ hn, e1, hni, hk.1, hk.2, hs, hz, fair, D.pl]
    · simp [Function.comp_def, hni] at e1
      simp [forG_cons, u_check_book_1, is_name_ok _ _ hn, e1, hni, hk.1, hk.2, hs, hz, fair, D.pl]
theorem check_book_ok (k : Nat) (sg : Sg) (h : sg.Ok) (s : Sto) : call prog (k + 3) F_check_book [.d sg.d] s = .ok (.d .non) s := by
  obtain ⟨c, h1, h2⟩ := check_book_loop (k + 1) (s.length + 1) s (.d sg.d) (sg.map fun x => .tup [.str x.1, .int x.2]) (by omega) sg [] h
  have hc : 0 < c := by
    obtain ⟨p, hp, hz⟩ := h.leaf
    have : 0 < sg.countP fun x => decide (x.2 = 0) := List.countP_pos_iff.mpr ⟨p, hp, by simp [hz]⟩
    simp at h1
    omega
  have hz : ¬ c = 0 := by omega
  have l1 : (1 : Int) ≤ sg.length := by have := h.pos; omega
  have l2 : (sg.length : Int) ≤ 6 := by have := h.six; omega
  rw [at_check_book]
  simp [Sg.d] at h2
  simp [runN_eq, b_check_book, Sg.d, l1, l2, h2, fair, D.pl, hz]
@[simp] theorem Book_init (k : Nat) (sg : Sg) (h : sg.Ok) (s : Sto) : call prog (k + 4) F_Book___init__ [.loc s.length, .d sg.d] (s ++ [.obj C_Book [] []]) = .ok (.d .non) (s ++ [.obj C_Book [A_names_told, A_kids_told] [.lst (sg.bk.ns.map .str), .lst (sg.bk.ks.map .int)]]) := by
  have l2 := h.six
  have h1 := lcG_map1 (c := cx prog (k + 3)) (n := s.length + 1) (tg := .tp [2, 3]) (g := (sg.map fun x => .tup [.str x.1, .int x.2], none)) (ifs := .nil) (elt := .v 2) (e := [some (.loc s.length), some (.d sg.d), none, none]) (s := s ++ [M.obj C_Book [] []]) (fun x => .tup [.str x.1, .int x.2]) (fun x => .str x.1) sg (by omega) (fun x _ acc r h => by simp [lcG_cons, lcA, h])
  have h2 := lcG_map1 (c := cx prog (k + 3)) (n := s.length + 1) (tg := .tp [2, 3]) (g := (sg.map fun x => .tup [.str x.1, .int x.2], none)) (ifs := .nil) (elt := .v 3) (e := [some (.loc s.length), some (.d sg.d), none, none]) (s := s ++ [M.obj C_Book [A_names_told] [.lst (sg.map fun x => .str x.1)]]) (fun x => .tup [.str x.1, .int x.2]) (fun x => .int x.2) sg (by omega) (fun x _ acc r h => by simp [lcG_cons, lcA, h])
  rw [at_Book___init__]
  simp [Sg.d] at h1 h2
  simp [runN_eq, b_Book___init__, check_book_ok _ sg h]
  simp [Sg.d, finC, h1, h2, putKs, putN, Sg.bk, Function.comp_def]
@[simp] theorem new_Book (k : Nat) (sg : Sg) (h : sg.Ok) (s : Sto) : newG (call prog (k + 4)) F_Book___init__ C_Book true [.d sg.d] s = .ok (.d (oBook sg.bk)) s := newG_ok (Book_init k sg h s)
end G

set_option maxRecDepth 10000
namespace TT
theorem gi_get {α : Type} [Inhabited α] {l : List α} {i : Int} (h0 : 0 ≤ i) (h1 : i < l.length) : l[i.toNat]? = some (gi l i) := by
  have : i.toNat < l.length := by omega
  simp [gi, List.getD, this]
/-- made rows that may be handed in -/
structure RowsOk (bk gl : Bk) (rows : List (List Mr)) : Prop where
  pos : 1 ≤ rows.length
  three : rows.length ≤ 3
  len : ∀ r ∈ rows, r.length = bk.ks.length
  mr : ∀ r ∈ rows, ∀ (i : Nat) (m : Mr), r[i]? = some m → MrOk gl.ks rows.length (gi bk.ks i) m ∧ m.size ≤ 8
theorem RowsOk.tn {bk gl : Bk} {rows : List (List Mr)} (h : RowsOk bk gl rows) (hb : bk.Ok) (hg : gl.Ok) : (⟨bk, gl, rows⟩ : Tn).Ok := by
  refine ⟨hb, hg, h.pos, h.len, ?_, by have := h.three; simp; omega, ?_⟩
  · intro st sg h0 h1 h2 h3
    have hm : gi rows st ∈ rows := gi_mem h0 h1
    have hl := h.len _ hm
    simp only at h3
    have : (gi rows st)[sg.toNat]? = some (gi (gi rows st) sg) := gi_get (by omega) (by omega)
    have := (h.mr _ hm _ _ this).1
    rw [show ((sg.toNat : Nat) : Int) = sg by omega] at this
    exact this
  · intro r hs m hm
    obtain ⟨i, hi⟩ := List.getElem?_of_mem hm
    have := (h.mr r hs i m hi).2
    omega
def rowsD (rows : List (List Mr)) : D := .lst (rows.map fun some => .lst (some.map mD))
end TT
namespace G
open TT
theorem made_row_loop (k n : Nat) (s : Sto) (gl : Bk) (hg : gl.Ok) (states kids : Int) (rw : W) (g0 : List D) (m : Mr) : ∀ (rest : List D) (w : Int), 1 ≤ w → MrOk gl.ks states kids m →
    forG (cx prog (k + 1)) n (.nm 5) [5] l_is_made_row_1 (g0, none) (m.row hD ++ rest) [some (.d (oBook gl)), some (.d (.int states)), some (.d (.int kids)), some rw, some (.d (.int w)), none] s = forG (cx prog (k + 1)) n (.nm 5) [5] l_is_made_row_1 (g0, none) rest [some (.d (oBook gl)), some (.d (.int states)), some (.d (.int kids)), some rw, some (.d (.int (w - 1))), none] s := by
  induction m with
  | v x =>
    intro rest w hw h
    have h1 := h.all
    have hw0 : ¬ w = 0 := by omega
    have a0 := h1.1.1
    have a1 := h1.1.2
    have a2 := h1.2.1
    have a3 := h1.2.2
    simp [T.row, hD, forG_cons, u_is_made_row_1, fair, D.pl, hw0, atI, ixOf, a0, a1, a2, a3]
  | z sg =>
    intro rest w hw h
    have h1 := h.ok
    have hw0 : ¬ w = 0 := by omega
    simp [T.row, forG_cons, u_is_made_row_1, fair, D.pl, hw0, hg.len, h1.1.1, h1.1.2, h1.2, Book_kids]
  | o sg a ih =>
    intro rest w hw h
    have h1 := h.ok
    have hw0 : ¬ w = 0 := by omega
    have := ih rest w hw ⟨h1.2.2, h.all⟩
    rw [← this]
    simp [T.row, forG_cons, u_is_made_row_1, fair, D.pl, hw0, hg.len, h1.1.1, h1.1.2, h1.2.1, Book_kids]
  | t sg a b iha ihb =>
    intro rest w hw h
    have h1 := h.ok
    have hw0 : ¬ w = 0 := by omega
    have e1 := iha (b.row hD ++ rest) (w + 1) (by omega) ⟨h1.2.2.1, h.all.1⟩
    have e2 := ihb rest w hw ⟨h1.2.2.2, h.all.2⟩
    rw [← e2]
    rw [show w + 1 - 1 = w by omega] at e1
    rw [← e1]
    simp [T.row, forG_cons, u_is_made_row_1, fair, D.pl, hw0, hg.len, h1.1.1, h1.1.2, h1.2.1, Book_kids]
    rw [show w - 1 + 2 = w + 1 by omega]
theorem is_made_row_ok (k : Nat) (s : Sto) (gl : Bk) (hg : gl.Ok) (states kids : Int) (m : Mr) (h : MrOk gl.ks states kids m) : call prog (k + 2) F_is_made_row [.d (oBook gl), .d (.int states), .d (.int kids), .d (mD m)] s = .ok (.d (.bl true)) s := by
  have e := made_row_loop k s.length s gl hg states kids (.d (mD m)) (m.row hD) m [] 1 (by omega) h
  rw [at_is_made_row]
  simp only [mD, List.append_nil] at e ⊢
  simp [runN_eq, b_is_made_row, e, fair, D.pl]
theorem turner_loop1 (k n : Nat) (s : Sto) (bk gl : Bk) (hb : bk.Ok) (hg : gl.Ok) (rows : List (List Mr)) (h : RowsOk bk gl rows) (sl : W) (w : D) (g : List D) (sm0 : List Mr) (hm : sm0 ∈ rows) : ∀ (q p : List Mr), sm0 = p ++ q →
    forG (cx prog (k + 3)) n (.tp [5, 6]) [5, 6] l_Turner___init___1 (g, none) (enumD p.length (q.map mD)) [some sl, some (.d (oBook bk)), some (.d (oBook gl)), some (.d (rowsD rows)), some (.d w), none, none] s = .ok (.nx, [some sl, some (.d (oBook bk)), some (.d (oBook gl)), some (.d (rowsD rows)), some (.d w), none, none]) s := by
  intro q
  induction q with
  | nil => intro p e; simp [enumD]
  | cons x q ih =>
    intro p e
    have := ih (p ++ [x]) (by simp [e])
    have hx := h.mr sm0 hm p.length x (by rw [e]; simp)
    have hl := h.len sm0 hm
    have b1 : (p.length : Int) < bk.ks.length := by rw [← hl, e]; simp; omega
    have b2 : ¬ (8 : Int) < (x.row hD).length := by rw [T.row_len]; omega
    have hmr := fun k s => is_made_row_ok k s gl hg rows.length (gi bk.ks p.length) x hx.1
    simp only [List.length_append, List.length_cons, List.length_nil] at this
    rw [← this]
    simp only [mD] at hmr ⊢
    simp [enumD, forG_cons, u_Turner___init___1, mD, b2, Book_kids _ bk _ (by omega : (0 : Int) ≤ p.length) b1, rowsD, hmr]
@[simp] theorem Turner_init (k : Nat) (bk gl : Bk) (hb : bk.Ok) (hg : gl.Ok) (rows : List (List Mr)) (h : RowsOk bk gl rows) (s : Sto) : call prog (k + 4) F_Turner___init__ [.loc s.length, .d (oBook bk), .d (oBook gl), .d (rowsD rows)] (s ++ [.obj C_Turner [] []]) = .ok (.d .non) (s ++ [.obj C_Turner [A_own_book, A_own_goals, A_own_rows] [oBook bk, oBook gl, rowsD rows]]) := by
  have l1 : (1 : Int) ≤ rows.length := by have := h.pos; omega
  have l2 : (rows.length : Int) ≤ 3 := by have := h.three; omega
  have e1 := forG_map (c := cx prog (k + 3)) (n := s.length + 1) (tg := .nm 4) (kill := [5, 6]) (body := l_Turner___init___2) (g := (rows.map fun some => D.lst (some.map mD), none))
    (fun some => D.lst (some.map mD)) (fun p => [some (.loc s.length), some (.d (oBook bk)), some (.d (oBook gl)), some (.d (rowsD rows)), p.getLast?.map fun some => .d (.lst (some.map mD)), none, none]) (fun _ => s ++ [.obj C_Turner [] []]) rows (fun p x q r e => by
      have hm : x ∈ rows := by rw [e]; simp
      have hl := h.len x hm
      have := turner_loop1 k (s.length + 1) (s ++ [.obj C_Turner [] []]) bk gl hb hg rows h (.loc s.length) (.lst (x.map mD)) (enumD 0 (x.map mD)) x hm x [] rfl
      simp at this
      simp [forG_cons, u_Turner___init___2, hl, hb.len, fair, D.pl, this])
  have e2 := lcG_map1 (c := cx prog (k + 3)) (n := s.length + 1) (tg := .nm 4) (g := (rows.map fun some => D.lst (some.map mD), none)) (ifs := .nil) (elt := .op true .list (.cons (.v 4) .nil)) (e := [some (.loc s.length), some (.d (oBook bk)), some (.d (oBook gl)), some (.d (rowsD rows)), none, none, none]) (s := s ++ [.obj C_Turner [A_own_book, A_own_goals] [oBook bk, oBook gl]]) (fun some => D.lst (some.map mD)) (fun some => D.lst (some.map mD)) rows (by omega) (fun x _ acc r h => by simp [lcG_cons, lcA, h])
  rw [at_Turner___init__]
  simp at e1 e2
  simp [runN_eq, b_Turner___init__, rowsD, l1, l2] at e1 e2 ⊢
  simp [e1, putKs, putN, finC, e2]
@[simp] theorem new_Turner (k : Nat) (bk gl : Bk) (hb : bk.Ok) (hg : gl.Ok) (rows : List (List Mr)) (h : RowsOk bk gl rows) (s : Sto) : newG (call prog (k + 4)) F_Turner___init__ C_Turner true [.d (oBook bk), .d (oBook gl), .d (rowsD rows)] s = .ok (.d (oTurner ⟨bk, gl, rows⟩)) s := newG_ok (Turner_init k bk gl hb hg rows h s)
end G

set_option maxRecDepth 10000
namespace G
open TT
def tabsD (ts : List (List Int)) : D := .lst (ts.map fun t => .lst (t.map .int))
def oReader (r : Rd) : D := .obj C_Reader [A_own_book, A_own_moods, A_own_tables, A_own_liked] [oBook r.bk, .int r.n, tabsD r.tabs, .lst (r.lk.map .int)]
@[simp] theorem objOf_oReader (r : Rd) (s : Sto) : objOf s (.d (oReader r)) = some (C_Reader, [A_own_book, A_own_moods, A_own_tables, A_own_liked], [oBook r.bk, .int r.n, tabsD r.tabs, .lst (r.lk.map .int)]) := (rfl)
@[simp] theorem Reader_book (k : Nat) (r : Rd) (s : Sto) : call prog (k + 1) F_Reader_book [.d (oReader r)] s = .ok (.d (oBook r.bk)) s := by
  rw [at_Reader_book]
  simp [runN_eq, b_Reader_book]
@[simp] theorem Reader_moods (k : Nat) (r : Rd) (s : Sto) : call prog (k + 1) F_Reader_moods [.d (oReader r)] s = .ok (.d (.int r.n)) s := by
  rw [at_Reader_moods]
  simp [runN_eq, b_Reader_moods, look_cons]
@[simp] theorem Reader_liked (k : Nat) (r : Rd) (s : Sto) : call prog (k + 1) F_Reader_liked [.d (oReader r)] s = .ok (.d (.lst (r.lk.map .int))) s := by
  rw [at_Reader_liked]
  simp [runN_eq, b_Reader_liked, look_cons]
@[simp] theorem Reader_is_liked (k : Nat) (r : Rd) (m : Int) (s : Sto) : call prog (k + 1) F_Reader_is_liked [.d (oReader r), .d (.int m)] s = .ok (.d (.bl (decide (m ∈ r.lk)))) s := by
  rw [at_Reader_is_liked]
  simp [runN_eq, b_Reader_is_liked, look_cons, pyIn_int]
theorem Reader_lead (k : Nat) (r : Rd) (hr : r.Ok) (sg : Int) (h0 : 0 ≤ sg) (h1 : sg < r.bk.ks.length) (row : List Int) (hl : (row.length : Int) = gi r.bk.ks sg) (hx : ∀ x ∈ row, 0 ≤ x ∧ x < r.n) (s : Sto) :
    call prog (k + 1) F_Reader_lead [.d (oReader r), .d (.int sg), .d (.tup (row.map .int))] s = .ok (.d (.int (r.lead sg row))) s := by
  have hb : bg (r.n : Int) = true := bg_of (by omega) (by have := hr.most; omega)
  have e := forG_map (c := cx prog k) (n := s.length) (tg := .nm 4) (kill := [4]) (body := l_Reader_lead_1) (g := (row.map D.int, none)) D.int
    (fun p => [some (.d (oReader r)), some (.d (.int sg)), some (.d (.tup (row.map .int))), some (.d (.int (sumUp r.n p))), none]) (fun _ => s) row (fun p x q w _ => by
      simp [forG_cons, u_Reader_lead_1, look_cons, hb, sumUp])
  obtain ⟨a, b⟩ := hr.at_ h0 h1 hl hx
  have e1 : atI r.tabs sg = some (gi r.tabs sg) := atI_ok h0 (by rw [hr.len]; exact h1)
  have e2 : atI (gi r.tabs sg) (sumUp r.n row) = some (r.lead sg row) := atI_ok a b
  rw [at_Reader_lead]
  simp [sumUp] at e e2
  simp [runN_eq, b_Reader_lead, e, look_cons, tabsD, e1, e2]
/-- a reader's moods of trees, by reading -/
theorem read_by_loop {U : Type} {K : Nat} {hd : D} {b : Bk} (hb : b.Ok) {enc : G0 → D} (H : Hand (K + 1) hd b.ks enc) (k n : Nat) (s : Sto) (tr : W) (g0 : List D) (x : G0) :
    ∀ (rest st : List D), x.Ok b.ks → st.length + x.size ≤ 10000 →
    forG (cx prog (k + K + 1)) n (.nm 4) [4, 5, 6] l_read_by_2 (g0, none) ((x.nums.map D.int).reverse ++ rest) [some (.d (oBook b)), some (.d hd), some tr, some (.loc s.length), none, none, none] (s ++ [.lst st]) = forG (cx prog (k + K + 1)) n (.nm 4) [4, 5, 6] l_read_by_2 (g0, none) rest [some (.d (oBook b)), some (.d hd), some tr, some (.loc s.length), none, none, none] (s ++ [.lst (st ++ [enc x])]) := by
  obtain ⟨cl, as, vs, f, ho, hf, hz, hn, ht⟩ := H
  simp only [← Nat.add_assoc] at hz hn ht
  have o0 : okQ 0 = true := okQ_of (by omega) (by omega)
  have o1 : okQ 1 = true := okQ_of (by omega) (by omega)
  have o2 : okQ 2 = true := okQ_of (by omega) (by omega)
  have s0 : sm 0 = true := sm_of (by omega)
  have s1 : sm 1 = true := sm_of (by omega)
  induction x with
  | v x => exact x.elim
  | z sg =>
    intro rest st hm hl
    simp only [T.size] at hl
    have hs : sm st.length = true := sm_of (by omega)
    simp [T.nums, forG_cons, u_read_by_2, hs, Book_kids, hm.1.1, hm.1.2, hm.2, rngD00, ho, hf, hz sg hm, o0]
  | o sg a ih =>
    intro rest st hm hl
    simp only [T.size] at hl
    have hs : sm st.length = true := sm_of (by omega)
    have := ih (D.int sg :: rest) st hm.2.2 (by omega)
    simp [T.nums, this]
    simp [forG_cons, u_read_by_2, u_read_by_1, hs, Book_kids, hm.1.1, hm.1.2, hm.2.1, rngD01, ho, hf, hn sg _ hm, o1, s0, s1]
  | t sg a c iha ihb =>
    intro rest st hm hl
    simp only [T.size] at hl
    have hs : sm st.length = true := sm_of (by omega)
    have h1 := ihb ((a.nums.map D.int).reverse ++ D.int sg :: rest) st hm.2.2.2 (by omega)
    have h2 := iha (D.int sg :: rest) (st ++ [enc c]) hm.2.2.1 (by simp; have := c.size_pos; omega)
    simp [T.nums, h1, h2]
    simp [forG_cons, u_read_by_2, u_read_by_1, hs, Book_kids, hm.1.1, hm.1.2, hm.2.1, rngD02, ho, hf, ht sg _ _ hm, o2, s0, s1]
theorem read_by_eq {K : Nat} {hd : D} {b : Bk} (hb : b.Ok) {enc : G0 → D} (H : Hand (K + 1) hd b.ks enc) (k : Nat) (s : Sto) (x : G0) (hx : x.Ok b.ks) (hl : x.size ≤ 10000) :
    call prog (k + K + 2) F_read_by [.d (oBook b), .d hd, .d (tD x)] s = .ok (.d (enc x)) s := by
  have h1 := read_by_loop (U := Empty) hb H k (s.length + 1) s (.d (tD x)) (x.nums.map D.int).reverse x [] [] hx (by simpa using hl)
  simp only [List.append_nil, List.nil_append] at h1
  rw [at_read_by]
  unfold tD at h1 ⊢
  simp [runN_eq, b_read_by, h1]
theorem reader_hand {V : Type} (r : Rd) (hr : r.Ok) (f : V → Int) (hf : ∀ x, 0 ≤ f x ∧ f x < r.n) : Hand 1 (oReader r) r.bk.ks (fun t : T V => .int (r.mood f t)) := by
  refine ⟨C_Reader, _, _, F_Reader_lead, fun s => objOf_oReader r s, by simp, fun sg h k s => ?_, fun sg a h k s => ?_, fun sg a b h k s => ?_⟩
  · exact Reader_lead k r hr sg h.1.1 h.1.2 [] (by simp [h.2]) (by simp) s
  · exact Reader_lead k r hr sg h.1.1 h.1.2 [r.mood f a] (by simp [h.2.1]) (by simpa using hr.mood hf a h.2.2) s
  · exact Reader_lead k r hr sg h.1.1 h.1.2 [r.mood f a, r.mood f b] (by simp [h.2.1]) (by simpa using ⟨hr.mood hf a h.2.2.1, hr.mood hf b h.2.2.2⟩) s
theorem Reader_mood (k : Nat) (r : Rd) (hr : r.Ok) (x : G0) (hx : x.Ok r.bk.ks) (hl : x.size ≤ 40) (s : Sto) : call prog (k + 5) F_Reader_mood [.d (oReader r), .d (tD x)] s = .ok (.d (.int (r.moodG x))) s := by
  have H := reader_hand r hr (fun e : Empty => e.elim) (fun e => e.elim)
  have e1 := fun s => read_by_eq hr.bk H (k + 2) s x hx (by omega)
  have e2 := fun s => check_tree_ok k r.bk hr.bk x hx hl s
  rw [at_Reader_mood]
  simp only [Nat.add_assoc, Nat.reduceAdd] at e1
  simp [runN_eq, b_Reader_mood, e1, e2, Rd.moodG]
theorem Reader_mood_no (k : Nat) (r : Rd) (hr : r.Ok) (row : List Int) (hn : ¬ (row.length ≤ 40 ∧ endOf r.bk.ks row 1 0 = row.length)) (hl : row.length < 1000000) (s : Sto) : call prog (k + 5) F_Reader_mood [.d (oReader r), .d (.tup (row.map .int))] s = .err X_NoTree s := by
  have e2 := fun s => check_tree_eq k r.bk hr.bk row hl s
  rw [at_Reader_mood]
  simp [runN_eq, b_Reader_mood, e2, hn]
theorem Reader_likes (k : Nat) (r : Rd) (hr : r.Ok) (x : G0) (hx : x.Ok r.bk.ks) (hl : x.size ≤ 40) (s : Sto) : call prog (k + 6) F_Reader_likes [.d (oReader r), .d (tD x)] s = .ok (.d (.bl (r.likes x))) s := by
  have e := fun s => Reader_mood k r hr x hx hl s
  rw [at_Reader_likes]
  simp [runN_eq, b_Reader_likes, e, Rd.likes]
theorem Reader_likes_no (k : Nat) (r : Rd) (hr : r.Ok) (row : List Int) (hn : ¬ (row.length ≤ 40 ∧ endOf r.bk.ks row 1 0 = row.length)) (hl : row.length < 1000000) (s : Sto) : call prog (k + 6) F_Reader_likes [.d (oReader r), .d (.tup (row.map .int))] s = .err X_NoTree s := by
  have e := fun s => Reader_mood_no k r hr row hn hl s
  rw [at_Reader_likes]
  simp [runN_eq, b_Reader_likes, e]
end G

set_option maxRecDepth 10000
namespace TT
section
variable {c : Cxt} {n : Nat} {tg : Tg} {kill : List Nat} {body : Ss} {g : Its} {α : Type}
/-- a loop with what stays true -/
theorem forG_inv (E : Int → α → Env) (S : α → Sto) (I : Int → α → Prop) {i m : Int} (hi : i ≤ m) (h : ∀ j a r, i ≤ j → j < m → I j a → ∃ b, I (j + 1) b ∧ forG c n tg kill body g (.int j :: r) (E j a) (S a) = forG c n tg kill body g r (E (j + 1) b) (S b)) (a : α) (ha : I i a) :
    ∃ b, I m b ∧ forG c n tg kill body g (rngD i m) (E i a) (S a) = forG c n tg kill body g [] (E m b) (S b) := by
  obtain ⟨d, hd⟩ : ∃ d : Nat, m = i + d := ⟨(m - i).toNat, by omega⟩
  induction d generalizing i a with
  | zero =>
    have : m = i := by omega
    subst this
    exact ⟨a, ha, by rw [rngD_nil (by omega)]⟩
  | succ d ih =>
    obtain ⟨b, hb, e⟩ := h i a (rngD (i + 1) m) (by omega) (by omega) ha
    obtain ⟨b', hb', e'⟩ := ih (by omega) (fun j a r h1 h2 => h j a r (by omega) h2) b hb (by omega)
    exact ⟨b', hb', by rw [rngD_cons (by omega), e, e']⟩
end
/-- things that are keys of one kind, and few -/
structure RawOk (P : D → Prop) (t N : Nat) : Prop where
  key : ∀ x, P x → keysOk t x = true
  kind : ∀ x, P x → kindK 3 x = t
  opn : ∀ x, P x → keysOk 3 x = true
  t3 : t ≠ 3
  few : ∀ l : List D, l.Nodup → (∀ x ∈ l, P x) → l.length ≤ N
  hN : N ≤ 100
/-- the kind of a dict with such keys -/
def dt (t : Nat) (ks : List D) : Nat := if ks = [] then 3 else t
theorem RawOk.dt_key {P : D → Prop} {t N : Nat} (h : RawOk P t N) (ks : List D) {x : D} (hx : P x) : keysOk (dt t ks) x = true := by
  unfold dt
  split
  · exact h.opn x hx
  · exact h.key x hx
theorem RawOk.dt_kind {P : D → Prop} {t N : Nat} (h : RawOk P t N) (ks : List D) {x : D} (hx : P x) : kindK (dt t ks) x = t := by
  unfold dt
  split
  · exact h.kind x hx
  · unfold kindK; rw [if_neg h.t3]
theorem dt_put (t : Nat) (k : D) (ks : List D) : dt t (putKs k ks) = t := by
  unfold dt putKs
  by_cases q : k ∈ ks
  · rw [if_pos q, if_neg (fun e => by subst e; cases q)]
  · rw [if_neg q, if_neg (by simp)]
theorem dt_snoc (t : Nat) (k : D) (ks : List D) : dt t (ks ++ [k]) = t := by
  unfold dt; rw [if_neg (by simp)]
theorem dt_cons (t : Nat) (k : D) (ks : List D) : dt t (k :: ks) = t := by
  unfold dt; rw [if_neg (by simp)]
end TT
namespace G
open TT
/-! choices -/
theorem choices_loop1 (k n : Nat) (s : Sto) (xs : List D) (w1 w2 : W) (w3 : Option W) (thW : W) (gg : Option Nat) (ht : ∀ r, walkOf (s ++ r) thW = some (xs, gg) ∧ still (xs, gg) (s ++ r) = true) (g : Its) (hg : ∀ r, still g (s ++ r) = true) (rows : List (List D)) (hl : rows.length * xs.length ≤ 10000) (hx : xs.length ≤ 10000) (hr : ∀ r ∈ rows, r.length ≤ 10):
    forG (cx prog k) n (.nm 5) [5] l_choices_1 g (rows.map .tup) [some thW, some w1, some w2, w3, some (.loc s.length), none, none] (s ++ [.lst []]) = .ok (.nx, [some thW, some w1, some w2, w3, some (.loc s.length), none, none]) (s ++ [.lst ((rows.map fun r => xs.map fun x => .tup (r ++ [x])).flatten)]) := by
  have e := forG_map (c := cx prog k) (n := n) (tg := .nm 5) (kill := [5]) (body := l_choices_1) (g := g) D.tup
    (fun _ => [some thW, some w1, some w2, w3, some (.loc s.length), none, none]) (fun p => s ++ [.lst ((p.map fun r => xs.map fun x => .tup (r ++ [x])).flatten)]) rows (fun p x q w hp => by
      have hlen : ((p.map fun r => xs.map fun x => (D.tup (r ++ [x]))).flatten).length = p.length * xs.length := flat_len _ xs.length p (by simp)
      have hple : p.length * xs.length ≤ 10000 := by
        have : p.length ≤ rows.length := by rw [hp]; simp
        exact Nat.le_trans (Nat.mul_le_mul_right _ this) hl
      have hs : sm ((p.map fun r => xs.map fun x => (D.tup (r ++ [x]))).flatten).length = true := sm_of (by rw [hlen]; exact hple)
      have hs2 : sm xs.length = true := sm_of hx
      have hs3 : sm x.length = true := sm_of (by have := hr x (by rw [hp]; simp); omega)
      have hs1 : sm 1 = true := sm_of (by omega)
      obtain ⟨t1, t2⟩ := ht [.lst ((p.map fun r => xs.map fun x => .tup (r ++ [x])).flatten)]
      have e2 := lcG_map1 (c := cx prog k) (n := s.length + 1) (tg := .nm 6) (g := (xs, gg)) (ifs := .nil) (elt := .op true .add (.cons (.v 5) (.cons (.tup (.cons (.v 6) .nil)) .nil))) (e := [some thW, some w1, some w2, w3, some (.loc s.length), some (.d (.tup x)), none]) (s := s ++ [M.lst ((p.map fun r => xs.map fun x => .tup (r ++ [x])).flatten)]) id (fun y => .tup (x ++ [y])) xs hx (fun y _ acc r h => by
        have t3 := (ht [.lst ((p.map fun r => xs.map fun x => .tup (r ++ [x])).flatten), .lst acc]).2
        have t4 := (ht [.lst ((p.map fun r => xs.map fun x => .tup (r ++ [x])).flatten), .lst (acc ++ [.tup (x ++ [y])])]).2
        simp [lcG_cons, lcA, h, hs3, hs1, t3])
      have t5 := (ht [.lst ((p.map fun r => xs.map fun x => .tup (r ++ [x])).flatten), .lst (xs.map fun y => .tup (x ++ [y]))]).2
      rw [List.map_id] at e2
      simp [List.append_assoc] at e2 t5
      rw [List.length_flatten, List.map_map] at hs
      simp [forG_cons, u_choices_1, t1, e2, t5, finC, hs, hs2, hg])
  simpa [hg] using e
theorem choices_eq (k : Nat) (s : Sto) (xs : List D) (thW : W) (gg : Option Nat) (ht : ∀ r, walkOf (s ++ r) thW = some (xs, gg) ∧ still (xs, gg) (s ++ r) = true) (c : Nat) (hc : c ≤ 2) (hx : xs.length ≤ 100) :
    call prog (k + 1) F_choices [thW, .d (.int c)] s = .ok (.d (.lst ((chs xs c).map .tup))) s := by
  have hx2 : xs.length * xs.length ≤ 10000 := Nat.mul_le_mul hx hx
  have sl : ∀ (A : List D) (r : Sto), still (A, some s.length) (s ++ .lst A :: r) = true := by
    intro A r
    simp [still]
  have e1 := choices_loop1 k (s.length + 1) s xs (.d (.int c)) (.d (.lst [.tup []])) (some (.d (.int 0))) thW gg ht ([.tup []], none) (fun r => rfl) [[]] (by simp; omega) (by omega) (by simp)
  have A1 : (([[]] : List (List D)).map fun r => xs.map fun x => D.tup (r ++ [x])).flatten = (chs xs 1).map .tup := by rw [chs1]; simp
  rw [A1] at e1
  have e2 := choices_loop1 k (s.length + 1 + 1) (s ++ [.lst ((chs xs 1).map .tup)]) xs (.d (.int c)) (.loc s.length) (some (.d (.int 1))) thW gg (fun r => by rw [List.append_assoc]; exact ht _) ((chs xs 1).map .tup, some s.length) (fun r => by rw [List.append_assoc]; exact sl _ _) (chs xs 1) (by rw [chs_len]; simpa using hx2) (by omega) (by intro r hr; rw [(chs_mem.mp hr).1]; omega)
  have A2 : ((chs xs 1).map fun r => xs.map fun x => D.tup (r ++ [x])).flatten = (chs xs 2).map .tup := by
    show _ = (((chs xs 1).map _).flatten).map D.tup
    rw [List.map_flatten, List.map_map]
    simp [Function.comp_def]
  rw [A2] at e2
  have o : okQ c = true := okQ_of (by omega) (by omega)
  rw [at_choices]
  have hcc : c = 0 ∨ c = 1 ∨ c = 2 := by omega
  rcases hcc with rfl | rfl | rfl
  · simp [runN_eq, b_choices, o, rngD00, chs0]
  · simp at e1
    simp at o
    simp [runN_eq, b_choices, o, rngD01, forG_cons, u_choices_2, e1, leave_loc]
  · simp at e1 e2
    simp at o
    simp [runN_eq, b_choices, o, rngD02, forG_cons, u_choices_2, e1, e2, leave_loc]
end G

set_option maxRecDepth 10000
namespace G
open TT
/-- found and seen -/
def fsM (t : Nat) (fs : List D) : List M := [.lst fs, .dct (dt t fs) fs (fs.map fun _ => .bl true)]
theorem rep_true (x : D) : ∀ fs : List D, repVs x (.bl true) fs (fs.map fun _ => (D.bl true)) = fs.map fun _ => .bl true
  | [] => rfl
  | y :: fs => by simp [repVs, rep_true x fs]
theorem add_eq {P : D → Prop} {t N : Nat} (R : RawOk P t N) (k : Nat) (s : Sto) (fs : List D) (hl : fs.length ≤ 1000) (x : D) (hx : P x) :
    call prog (k + 1) F_add [.loc s.length, .loc (s.length + 1), .d x] (s ++ fsM t fs) = .ok (.d .non) (s ++ fsM t (putKs x fs)) := by
  have h1 := R.dt_key fs hx
  have h2 := R.dt_kind fs hx
  have hs : sm fs.length = true := sm_of (by omega)
  rw [at_add]
  by_cases q : x ∈ fs
  · simp [runN_eq, b_add, fsM, h1, q, putKs]
  · simp [runN_eq, b_add, fsM, h1, h2, q, putKs, hs, putVs, dt_snoc]
/-- what leads to moods -/
structure HandD (K : Nat) (hd : D) (ks : List Int) (P : D → Prop) (hl : Int → List D → D) (lk : D → Bool) : Prop where
  ob : ∃ cl as vs f g, (∀ s, objOf s (.d hd) = some (cl, as, vs)) ∧ prog.meth cl M_lead = some f ∧ prog.meth cl M_is_liked = some g ∧
    (∀ (sg : Int) row, 0 ≤ sg → sg < ks.length → (row.length : Int) = gi ks sg → (∀ x ∈ row, P x) → ∀ k s, call prog (k + K) f [.d hd, .d (.int sg), .d (.tup row)] s = .ok (.d (hl sg row)) s) ∧
    (∀ x, P x → ∀ k s, call prog (k + K) g [.d hd, .d x] s = .ok (.d (.bl (lk x))) s)
  cl : ∀ (sg : Int) row, 0 ≤ sg → sg < ks.length → (row.length : Int) = gi ks sg → (∀ x ∈ row, P x) → P (hl sg row)
/-- good: each once, all of them moods -/
structure Good (P : D → Prop) (fs : List D) : Prop where
  nd : fs.Nodup
  all : ∀ x ∈ fs, P x
theorem Good.put {P : D → Prop} {fs : List D} (h : Good P fs) {x : D} (hx : P x) : Good P (putKs x fs) := by
  unfold putKs
  split
  · exact h
  · rename_i q
    refine ⟨?_, fun y hy => ?_⟩
    · rw [List.nodup_append]
      exact ⟨h.nd, by simp, fun a ha b hb e => by rw [List.mem_singleton] at hb; subst hb; subst e; exact q ha⟩
    · rcases List.mem_append.mp hy with hy | hy
      · exact h.all y hy
      · rw [List.mem_singleton] at hy; rw [hy]; exact hx
def Ext (a b : List D) : Prop := ∃ X, b = a ++ X
theorem Ext.refl (a : List D) : Ext a a := ⟨[], by simp⟩
theorem Ext.trans {a b c : List D} (h : Ext a b) (h' : Ext b c) : Ext a c := by
  obtain ⟨X, rfl⟩ := h
  obtain ⟨Y, rfl⟩ := h'
  exact ⟨X ++ Y, by simp⟩
theorem Ext.put (a : List D) (x : D) : Ext a (putKs x a) := by
  unfold putKs
  split
  · exact Ext.refl a
  · exact ⟨[x], rfl⟩
theorem Ext.mem {a b : List D} (h : Ext a b) {x : D} (hx : x ∈ a) : x ∈ b := by
  obtain ⟨X, rfl⟩ := h
  simp [hx]
theorem Ext.len {a b : List D} (h : Ext a b) : a.length ≤ b.length := by
  obtain ⟨X, rfl⟩ := h
  simp
theorem Ext.gi {a b : List D} (h : Ext a b) {i : Int} (h0 : 0 ≤ i) (h1 : i < a.length) : TT.gi b i = TT.gi a i := by
  obtain ⟨X, rfl⟩ := h
  unfold TT.gi
  have : i.toNat < a.length := by omega
  simp [List.getD, List.getElem?_append_left this]
theorem put_in (x : D) (fs : List D) : x ∈ putKs x fs := by
  unfold putKs
  split
  · assumption
  · simp
section
variable {P : D → Prop} {t N K : Nat} {hd : D} {b : Bk} {hl : Int → List D → D} {lk : D → Bool}
theorem Good.len (R : RawOk P t N) {fs : List D} (h : Good P fs) : fs.length ≤ 100 := Nat.le_trans (R.few fs h.nd h.all) R.hN
/-- what a sign leads to from the last one and those before -/
def Clo1 (ks : List Int) (hl : Int → List D → D) (fs : List D) (sp : Int) (sg : Int) : Prop :=
  (gi ks sg = 1 → hl sg [gi fs sp] ∈ fs) ∧ (gi ks sg = 2 → ∀ o, 0 ≤ o → o ≤ sp → hl sg [gi fs sp, gi fs o] ∈ fs ∧ hl sg [gi fs o, gi fs sp] ∈ fs)
theorem Clo1.ext {ks : List Int} {hl : Int → List D → D} {a c : List D} {sp sg : Int} (h : Clo1 ks hl a sp sg) (e : Ext a c) (h0 : 0 ≤ sp) (h1 : sp < a.length) : Clo1 ks hl c sp sg := by
  refine ⟨fun q => ?_, fun q o o0 o1 => ?_⟩
  · rw [e.gi h0 h1]; exact e.mem (h.1 q)
  · rw [e.gi h0 h1, e.gi o0 (by omega)]
    exact ⟨e.mem (h.2 q o o0 o1).1, e.mem (h.2 q o o0 o1).2⟩
theorem reached_loop1 (R : RawOk P t N) (hb : b.Ok) (Hd : HandD (K + 1) hd b.ks P hl lk) (k n : Nat) (s : Sto) (g : List D) :
    ∃ fs, (Good P fs ∧ ∀ sg, 0 ≤ sg → sg < (b.ks.length : Int) → gi b.ks sg = 0 → hl sg [] ∈ fs) ∧
    forG (cx prog (k + K + 1)) n (.nm 4) [4] l_reached_1 (g, none) (rngD 0 b.ks.length) [some (.d (oBook b)), some (.d hd), some (.loc s.length), some (.loc (s.length + 1)), none, none, none] (s ++ fsM t []) = .ok (.nx, [some (.d (oBook b)), some (.d hd), some (.loc s.length), some (.loc (s.length + 1)), none, none, none]) (s ++ fsM t fs) := by
  obtain ⟨⟨cl, as, vs, f, gf, ho, hf, hg, hlead, hlk⟩, hcl⟩ := Hd
  simp only [← Nat.add_assoc] at hlead
  obtain ⟨fs, h1, h2⟩ := forG_inv (c := cx prog (k + K + 1)) (n := n) (tg := .nm 4) (kill := [4]) (body := l_reached_1) (g := (g, none))
    (fun _ _ => [some (.d (oBook b)), some (.d hd), some (.loc s.length), some (.loc (s.length + 1)), none, none, none]) (fun fs => s ++ fsM t fs) (fun j fs => Good P fs ∧ ∀ sg, 0 ≤ sg → sg < j → gi b.ks sg = 0 → hl sg [] ∈ fs) (i := 0) (m := b.ks.length) (by omega) (fun j fs r j0 j1 ⟨hG, hc⟩ => by
      have bk := Book_kids (k + K) b j j0 j1
      by_cases q : gi b.ks j = 0
      · have hp := hcl j [] j0 j1 (by simp [q]) (by simp)
        refine ⟨putKs (hl j []) fs, ⟨hG.put hp, fun sg h0 h1 hz => ?_⟩, ?_⟩
        · by_cases e : sg = j
          · subst e; exact put_in _ _
          · exact (Ext.put fs _).mem (hc sg h0 (by omega) hz)
        · have ea := add_eq R (k + K) s fs (by have := hG.len R; omega) _ hp
          have el := fun st => hlead j [] j0 j1 (by simp [q]) (by simp) k st
          simp [forG_cons, u_reached_1, bk, q, ho, hf, el, ea, fair, D.pl]
      · refine ⟨fs, ⟨hG, fun sg h0 h1 hz => ?_⟩, ?_⟩
        · by_cases e : sg = j
          · subst e; exact absurd hz q
          · exact hc sg h0 (by omega) hz
        · simp [forG_cons, u_reached_1, bk, q, fair, D.pl])
    [] ⟨⟨by simp, by simp⟩, fun sg h0 h1 _ => by omega⟩
  exact ⟨fs, h1, by simpa using h2⟩
theorem reached_loop2 (R : RawOk P t N) (hb : b.Ok) (Hd : HandD (K + 1) hd b.ks P hl lk) (k n : Nat) (s : Sto) (g : List D) (sg : Int) (s0 : 0 ≤ sg) (s1 : sg < b.ks.length) (h2 : gi b.ks sg = 2) (sp : Int) (p0 : 0 ≤ sp) (fs0 : List D) (p1 : sp < fs0.length) (h0 : Good P fs0) :
    ∃ fs, (Good P fs ∧ Ext fs0 fs ∧ ∀ o, 0 ≤ o → o ≤ sp → hl sg [gi fs sp, gi fs o] ∈ fs ∧ hl sg [gi fs o, gi fs sp] ∈ fs) ∧
    forG (cx prog (k + K + 1)) n (.nm 6) [6] l_reached_2 (g, none) (rngD 0 (sp + 1)) [some (.d (oBook b)), some (.d hd), some (.loc s.length), some (.loc (s.length + 1)), some (.d (.int sg)), some (.d (.int sp)), none] (s ++ fsM t fs0) = .ok (.nx, [some (.d (oBook b)), some (.d hd), some (.loc s.length), some (.loc (s.length + 1)), some (.d (.int sg)), some (.d (.int sp)), none]) (s ++ fsM t fs) := by
  obtain ⟨⟨cl, as, vs, f, gf, ho, hf, hg, hlead, hlk⟩, hcl⟩ := Hd
  simp only [← Nat.add_assoc] at hlead
  obtain ⟨fs, e1, e2⟩ := forG_inv (c := cx prog (k + K + 1)) (n := n) (tg := .nm 6) (kill := [6]) (body := l_reached_2) (g := (g, none))
    (fun _ _ => [some (.d (oBook b)), some (.d hd), some (.loc s.length), some (.loc (s.length + 1)), some (.d (.int sg)), some (.d (.int sp)), none]) (fun fs => s ++ fsM t fs) (fun j fs => Good P fs ∧ Ext fs0 fs ∧ ∀ o, 0 ≤ o → o < j → hl sg [gi fs sp, gi fs o] ∈ fs ∧ hl sg [gi fs o, gi fs sp] ∈ fs) (i := 0) (m := sp + 1) (by omega) (fun j fs r j0 j1 ⟨hG, hE, hc⟩ => by
      have l1 := hE.len
      have m1 : gi fs sp ∈ fs := gi_mem p0 (by omega)
      have m2 : gi fs j ∈ fs := gi_mem j0 (by omega)
      have hp1 := hcl sg [gi fs sp, gi fs j] s0 s1 (by simp [h2]) (by simpa using ⟨hG.all _ m1, hG.all _ m2⟩)
      have hp2 := hcl sg [gi fs j, gi fs sp] s0 s1 (by simp [h2]) (by simpa using ⟨hG.all _ m2, hG.all _ m1⟩)
      have ea1 := add_eq R (k + K) s fs (by have := hG.len R; omega) _ hp1
      have hG1 := hG.put hp1
      have E1 := Ext.put fs (hl sg [gi fs sp, gi fs j])
      have ea2 := add_eq R (k + K) s (putKs (hl sg [gi fs sp, gi fs j]) fs) (by have := hG1.len R; omega) _ hp2
      have hG2 := hG1.put hp2
      have E2 := Ext.put (putKs (hl sg [gi fs sp, gi fs j]) fs) (hl sg [gi fs j, gi fs sp])
      have E3 := E1.trans E2
      have el1 := fun st => hlead sg [gi fs sp, gi fs j] s0 s1 (by simp [h2]) (by simpa using ⟨hG.all _ m1, hG.all _ m2⟩) k st
      have el2 := fun st => hlead sg [gi fs j, gi fs sp] s0 s1 (by simp [h2]) (by simpa using ⟨hG.all _ m2, hG.all _ m1⟩) k st
      have a1 : atI fs sp = some (gi fs sp) := atI_ok p0 (by omega)
      have a2 : atI fs j = some (gi fs j) := atI_ok j0 (by omega)
      have a3 : atI (putKs (hl sg [gi fs sp, gi fs j]) fs) sp = some (gi fs sp) := by rw [atI_ok p0 (by have := E1.len; omega), E1.gi p0 (by omega)]
      have a4 : atI (putKs (hl sg [gi fs sp, gi fs j]) fs) j = some (gi fs j) := by rw [atI_ok j0 (by have := E1.len; omega), E1.gi j0 (by omega)]
      refine ⟨_, ⟨hG2, hE.trans E3, fun o o0 o1 => ?_⟩, ?_⟩
      · rw [E3.gi p0 (by omega), E3.gi o0 (by omega)]
        by_cases e : o = j
        · subst e; exact ⟨E2.mem (put_in _ _), put_in _ _⟩
        · obtain ⟨x1, x2⟩ := hc o o0 (by omega)
          exact ⟨E3.mem x1, E3.mem x2⟩
      · simp only [fsM] at ea1 ea2
        simp [forG_cons, u_reached_2, fsM, a1, a2, a3, a4, ho, hf, el1, el2, ea1, ea2])
    fs0 ⟨h0, Ext.refl _, fun o o0 o1 => by omega⟩
  exact ⟨fs, ⟨e1.1, e1.2.1, fun o o0 o1 => e1.2.2 o o0 (by omega)⟩, by simpa using e2⟩
end
end G

set_option maxRecDepth 10000
namespace G
open TT
section
variable {P : D → Prop} {t N K : Nat} {hd : D} {b : Bk} {hl : Int → List D → D} {lk : D → Bool}
theorem reached_loop3 (R : RawOk P t N) (hb : b.Ok) (Hd : HandD (K + 1) hd b.ks P hl lk) (k n : Nat) (s : Sto) (g : List D) (sp : Int) (p0 : 0 ≤ sp) (fs0 : List D) (p1 : sp < fs0.length) (h0 : Good P fs0) :
    ∃ fs, (Good P fs ∧ Ext fs0 fs ∧ ∀ sg, 0 ≤ sg → sg < (b.ks.length : Int) → Clo1 b.ks hl fs sp sg) ∧
    forG (cx prog (k + K + 1)) n (.nm 4) [4, 6] l_reached_3 (g, none) (rngD 0 b.ks.length) [some (.d (oBook b)), some (.d hd), some (.loc s.length), some (.loc (s.length + 1)), none, some (.d (.int sp)), none] (s ++ fsM t fs0) = .ok (.nx, [some (.d (oBook b)), some (.d hd), some (.loc s.length), some (.loc (s.length + 1)), none, some (.d (.int sp)), none]) (s ++ fsM t fs) := by
  have Hd0 := Hd
  obtain ⟨⟨cl, as, vs, f, gf, ho, hf, hg, hlead, hlk⟩, hcl⟩ := Hd
  simp only [← Nat.add_assoc] at hlead
  obtain ⟨fs, e1, e2⟩ := forG_inv (c := cx prog (k + K + 1)) (n := n) (tg := .nm 4) (kill := [4, 6]) (body := l_reached_3) (g := (g, none))
    (fun _ _ => [some (.d (oBook b)), some (.d hd), some (.loc s.length), some (.loc (s.length + 1)), none, some (.d (.int sp)), none]) (fun fs => s ++ fsM t fs) (fun j fs => Good P fs ∧ Ext fs0 fs ∧ ∀ sg, 0 ≤ sg → sg < j → Clo1 b.ks hl fs sp sg) (i := 0) (m := b.ks.length) (by omega) (fun j fs r j0 j1 ⟨hG, hE, hc⟩ => by
      have bk := Book_kids (k + K) b j j0 j1
      have l1 := hE.len
      have l2 := hG.len R
      have m1 : gi fs sp ∈ fs := gi_mem p0 (by omega)
      have a1 : atI fs sp = some (gi fs sp) := atI_ok p0 (by omega)
      by_cases q : gi b.ks j = 1
      · have hp := hcl j [gi fs sp] j0 j1 (by simp [q]) (by simpa using hG.all _ m1)
        have ea := add_eq R (k + K) s fs (by omega) _ hp
        have el := fun st => hlead j [gi fs sp] j0 j1 (by simp [q]) (by simpa using hG.all _ m1) k st
        have E := Ext.put fs (hl j [gi fs sp])
        refine ⟨putKs (hl j [gi fs sp]) fs, ⟨hG.put hp, hE.trans E, fun sg g0 g1 => ?_⟩, ?_⟩
        · by_cases e : sg = j
          · subst e
            refine ⟨fun _ => ?_, fun z => by omega⟩
            rw [E.gi p0 (by omega)]
            exact put_in _ _
          · exact (hc sg g0 (by omega)).ext E p0 (by omega)
        · simp only [fsM] at ea
          simp [forG_cons, u_reached_3, fsM, bk, q, ho, hf, el, ea, fair, D.pl, a1]
      · by_cases q2 : gi b.ks j = 2
        · obtain ⟨fs', ⟨hG', hE', hc'⟩, e⟩ := reached_loop2 R hb Hd0 k (s.length + 2) s (rngD 0 (sp + 1)) j j0 j1 q2 sp p0 fs (by omega) hG
          refine ⟨fs', ⟨hG', hE.trans hE', fun sg g0 g1 => ?_⟩, ?_⟩
          · by_cases e : sg = j
            · subst e
              exact ⟨fun z => by omega, fun _ => hc'⟩
            · exact (hc sg g0 (by omega)).ext hE' p0 (by omega)
          · have o : okQ (sp + 1) = true := okQ_of (by omega) (by omega)
            simp only [fsM] at e
            simp [forG_cons, u_reached_3, fsM, bk, q, q2, fair, D.pl, o, e]
        · refine ⟨fs, ⟨hG, hE, fun sg g0 g1 => ?_⟩, ?_⟩
          · by_cases e : sg = j
            · subst e
              exact ⟨fun z => absurd z q, fun z => absurd z q2⟩
            · exact hc sg g0 (by omega)
          · simp [forG_cons, u_reached_3, fsM, bk, q, q2, fair, D.pl])
    fs0 ⟨h0, Ext.refl _, fun o o0 o1 => by omega⟩
  exact ⟨fs, e1, by simpa using e2⟩
theorem reached_while (R : RawOk P t N) (hb : b.Ok) (Hd : HandD (K + 1) hd b.ks P hl lk) (k n : Nat) (s : Sto) : ∀ (m : Nat) (sp : Nat) (fs0 : List D) (f : Nat), 101 ≤ sp + m → m < f → sp ≤ fs0.length → Good P fs0 → (∀ i, 0 ≤ i → i < (sp : Int) → ∀ sg, 0 ≤ sg → sg < (b.ks.length : Int) → Clo1 b.ks hl fs0 i sg) →
    ∃ fs, (Good P fs ∧ Ext fs0 fs ∧ ∀ i, 0 ≤ i → i < (fs.length : Int) → ∀ sg, 0 ≤ sg → sg < (b.ks.length : Int) → Clo1 b.ks hl fs i sg) ∧
    whlG (cx prog (k + K + 1)) n (.op true .lt (.cons (.v 5) (.cons (.op true .len (.cons (.v 2) .nil)) .nil))) [4, 6] l_reached_4 f [some (.d (oBook b)), some (.d hd), some (.loc s.length), some (.loc (s.length + 1)), none, some (.d (.int sp)), none] (s ++ fsM t fs0) = .ok (.nx, [some (.d (oBook b)), some (.d hd), some (.loc s.length), some (.loc (s.length + 1)), none, some (.d (.int fs.length)), none]) (s ++ fsM t fs) := by
  intro m
  induction m with
  | zero =>
    intro sp fs0 f h1 h2 h3 hG hc
    have := hG.len R
    omega
  | succ m ih =>
    intro sp fs0 f h1 h2 h3 hG hc
    obtain ⟨f, rfl⟩ : ∃ f', f = f' + 1 := ⟨f - 1, by omega⟩
    by_cases q : sp < fs0.length
    · obtain ⟨fs1, ⟨hG1, hE1, hc1⟩, e1⟩ := reached_loop3 R hb Hd k (s.length + 2) s (rngD 0 b.ks.length) sp (by omega) fs0 (by omega) hG
      obtain ⟨fs, ⟨hG2, hE2, hc2⟩, e2⟩ := ih (sp + 1) fs1 f (by omega) (by omega) (by have := hE1.len; omega) hG1 (fun i i0 i1 sg g0 g1 => by
        by_cases e : i = sp
        · subst e; exact hc1 sg g0 g1
        · exact (hc i i0 (by omega) sg g0 g1).ext hE1 i0 (by omega))
      refine ⟨fs, ⟨hG2, hE1.trans hE2, hc2⟩, ?_⟩
      have q' : (sp : Int) < fs0.length := by omega
      have o : okQ b.ks.length = true := okQ_of (by omega) (by have := hb.six; omega)
      rw [whlG_succ, ← e2]
      simp only [fsM] at e1
      simp [fsM, q', u_reached_4, o, hb.len, e1]
    · have q' : ¬ (sp : Int) < fs0.length := by omega
      have e : sp = fs0.length := by omega
      subst e
      refine ⟨fs0, ⟨hG, Ext.refl _, hc⟩, ?_⟩
      rw [whlG_succ]
      simp [fsM]
/-- all moods are there -/
structure Full (ks : List Int) (hl : Int → List D → D) (fs : List D) : Prop where
  z : ∀ sg, 0 ≤ sg → sg < (ks.length : Int) → gi ks sg = 0 → hl sg [] ∈ fs
  o : ∀ sg, 0 ≤ sg → sg < (ks.length : Int) → gi ks sg = 1 → ∀ x ∈ fs, hl sg [x] ∈ fs
  t : ∀ sg, 0 ≤ sg → sg < (ks.length : Int) → gi ks sg = 2 → ∀ x ∈ fs, ∀ y ∈ fs, hl sg [x, y] ∈ fs
theorem mem_gi {α : Type} [Inhabited α] {l : List α} {x : α} (h : x ∈ l) : ∃ i : Int, 0 ≤ i ∧ i < l.length ∧ gi l i = x := by
  obtain ⟨i, hi, e⟩ := List.mem_iff_getElem.mp h
  exact ⟨i, by omega, by omega, gi_of (by simp [hi, e])⟩
theorem reached_eq (R : RawOk P t N) (hb : b.Ok) (Hd : HandD (K + 1) hd b.ks P hl lk) (k : Nat) (s : Sto) :
    ∃ fs, Good P fs ∧ Full b.ks hl fs ∧ call prog (k + K + 2) F_reached [.d (oBook b), .d hd] s = .ok (.d (.lst fs)) s := by
  obtain ⟨fs1, ⟨hG1, hz1⟩, e1⟩ := reached_loop1 R hb Hd k (s.length + 2) s (rngD 0 b.ks.length)
  obtain ⟨fs, ⟨hG, hE, hc⟩, e2⟩ := reached_while R hb Hd k (s.length + 2) s 101 0 fs1 1000000 (by omega) (by omega) (by omega) hG1 (fun i i0 i1 => by omega)
  refine ⟨fs, hG, ⟨fun sg g0 g1 q => hE.mem (hz1 sg g0 g1 q), fun sg g0 g1 q x hx => ?_, fun sg g0 g1 q x hx y hy => ?_⟩, ?_⟩
  · obtain ⟨i, i0, i1, rfl⟩ := mem_gi hx
    exact (hc i i0 i1 sg g0 g1).1 q
  · obtain ⟨i, i0, i1, rfl⟩ := mem_gi hx
    obtain ⟨j, j0, j1, rfl⟩ := mem_gi hy
    by_cases h : j ≤ i
    · exact ((hc i i0 i1 sg g0 g1).2 q j j0 h).1
    · exact ((hc j j0 j1 sg g0 g1).2 q i i0 (by omega)).2
  · have o : okQ b.ks.length = true := okQ_of (by omega) (by have := hb.six; omega)
    rw [at_reached]
    simp [fsM, dt] at e1 e2
    simp [runN_eq, b_reached, o, hb.len, e1, e2, leave_loc]
end
end G

set_option maxRecDepth 10000
namespace TT
/-- numbers of things in order -/
def numF (raws : List D) : D → Option D := fun x => if x ∈ raws then some (.int (raws.idxOf x)) else none
theorem idxOf_app_mem {a : List D} {x : D} (b : List D) (h : x ∈ a) : (a ++ b).idxOf x = a.idxOf x := by
  rw [List.idxOf_append, if_pos h]
theorem num_put {p : List D} {x : D} (h : x ∉ p) : (fun k' => if x = k' then some (D.int p.length) else numF p k') = numF (p ++ [x]) := by
  funext y
  unfold numF
  by_cases e : x = y
  · subst e
    rw [if_pos rfl, if_pos (by simp), List.idxOf_append, if_neg h]
    simp
  · rw [if_neg e]
    by_cases m : y ∈ p
    · rw [if_pos m, if_pos (by simp [m]), idxOf_app_mem _ m]
    · rw [if_neg m, if_neg (by simp [m]; exact fun q => e q.symm)]
end TT
namespace G
open TT
section
variable {P : D → Prop} {t N K : Nat} {hd : D} {b : Bk} {hl : Int → List D → D} {lk : D → Bool}
theorem targets_loop1 (R : RawOk P t N) (k n : Nat) (s : Sto) (g : List D) (w1 w2 w3 : W) : ∀ (q p ks vs : List D), DictIs ks vs (numF p) → ks = p → (p ++ q).Nodup → (∀ x ∈ q, P x) → (p ++ q).length ≤ 1000 →
    ∃ vs', forG (cx prog k) n (.nm 4) [4] l_targets_1 (g, none) q [some w1, some w2, some w3, some (.loc s.length), none, none, none, none] (s ++ [.dct (dt t ks) ks vs]) = .ok (.nx, [some w1, some w2, some w3, some (.loc s.length), none, none, none, none]) (s ++ [.dct (dt t (p ++ q)) (p ++ q) vs']) ∧ DictIs (p ++ q) vs' (numF (p ++ q)) := by
  intro q
  induction q with
  | nil =>
    intro p ks vs hd e _ _ _
    subst e
    exact ⟨vs, by simp, by simpa using hd⟩
  | cons x q ih =>
    intro p ks vs hd e hn hp hl
    subst e
    have hx : x ∉ ks := by
      rw [List.nodup_append] at hn
      intro h
      exact hn.2.2 x h x (by simp) rfl
    have hpk : putKs x ks = ks ++ [x] := by unfold putKs; rw [if_neg hx]
    have hd2 := hd.put x (.int ks.length)
    rw [num_put hx, hpk] at hd2
    obtain ⟨vs', e1, e2⟩ := ih (ks ++ [x]) (ks ++ [x]) _ hd2 rfl (by simpa using hn) (fun y hy => hp y (by simp [hy])) (by simpa using hl)
    refine ⟨vs', ?_, by simpa using e2⟩
    have h1 := R.dt_key ks (hp x (by simp))
    have h2 := R.dt_kind ks (hp x (by simp))
    have hs : sm ks.length = true := sm_of (by simp at hl; omega)
    rw [show ks ++ x :: q = ks ++ [x] ++ q by simp, ← e1]
    rw [dt_snoc]
    simp [forG_cons, u_targets_1, h1, h2, hs, hpk]
/-- a sign's table of numbers -/
def tbl (ks : List Int) (hl : Int → List D → D) (raws : List D) (sg : Int) : List Int := (chs raws (gi ks sg).toNat).map fun row => ((raws.idxOf (hl sg row) : Nat) : Int)
theorem Full.mem {ks : List Int} {hl : Int → List D → D} {raws : List D} (h : Full ks hl raws) (hk : ∀ k ∈ ks, 0 ≤ k ∧ k ≤ 2) {sg : Int} (h0 : 0 ≤ sg) (h1 : sg < ks.length) {row : List D} (hr : row ∈ chs raws (gi ks sg).toNat) : hl sg row ∈ raws := by
  have hg := hk _ (gi_mem h0 h1)
  obtain ⟨l, m⟩ := chs_mem.mp hr
  have : gi ks sg = 0 ∨ gi ks sg = 1 ∨ gi ks sg = 2 := by omega
  rcases this with e | e | e
  · rw [e] at l
    have : row = [] := List.length_eq_zero_iff.mp l
    subst this
    exact h.z sg h0 h1 e
  · rw [e] at l
    match row, l, m with
    | [x], _, m => exact h.o sg h0 h1 e x (m x (by simp))
  · rw [e] at l
    match row, l, m with
    | [x, y], _, m => exact h.t sg h0 h1 e x (m x (by simp)) y (m y (by simp))
theorem targets_eq (R : RawOk P t N) (hb : b.Ok) (Hd : HandD (K + 1) hd b.ks P hl lk) (raws : List D) (hG : Good P raws) (hF : Full b.ks hl raws) (k : Nat) (s : Sto) :
    call prog (k + K + 2) F_targets [.d (oBook b), .d hd, .d (.lst raws)] s = .ok (.d (tabsD ((List.range b.ks.length).map fun (sg : Nat) => tbl b.ks hl raws sg))) s := by
  have l100 := hG.len R
  obtain ⟨vs, e1, hD⟩ := targets_loop1 R (k + K + 1) (s.length + 1) s raws (.d (oBook b)) (.d hd) (.d (.lst raws)) raws [] [] [] ⟨rfl, fun _ => rfl⟩ rfl (by simpa using hG.nd) hG.all (by simp; omega)
  obtain ⟨⟨cl, as, vs0, f, gf, ho, hf, hg, hlead, hlk⟩, hcl⟩ := Hd
  simp only [← Nat.add_assoc] at hlead
  simp only [List.nil_append] at e1 hD
  have six := hb.six
  have e2 := forG_rng (c := cx prog (k + K + 1)) (n := s.length + 2) (tg := .nm 6) (kill := [6]) (body := l_targets_2) (g := (rngD 0 b.ks.length, none))
    (fun _ => [some (.d (oBook b)), some (.d hd), some (.d (.lst raws)), some (.loc s.length), none, some (.loc (s.length + 1)), none, none]) (fun j => s ++ [.dct (dt t raws) raws vs, .lst ((List.range j.toNat).map fun (sg : Nat) => .lst ((tbl b.ks hl raws sg).map .int))]) (i := 0) (m := b.ks.length) (by omega) (fun j r j0 j1 => by
      obtain ⟨jn, rfl⟩ := Int.eq_ofNat_of_zero_le j0
      have hgk := hb.two _ (gi_mem j0 j1)
      obtain ⟨c, hc⟩ : ∃ c : Nat, gi b.ks jn = c ∧ c ≤ 2 := ⟨(gi b.ks jn).toNat, by omega, by omega⟩
      have bk := Book_kids (k + K) b jn j0 j1
      have hcc : (gi b.ks jn).toNat = c := by omega
      rw [hc.1] at bk
      have ec := fun st => choices_eq (k + K) st raws (.d (.lst raws)) none (fun r => ⟨rfl, rfl⟩) c hc.2 l100
      have hlen : ∀ c : Nat, c ≤ 2 → (chs raws c).length ≤ 10000 := by
        intro c hc
        rw [chs_len]
        have : c = 0 ∨ c = 1 ∨ c = 2 := by omega
        rcases this with rfl | rfl | rfl
        · simp
        · simp; omega
        · have := Nat.mul_le_mul l100 l100
          rw [Nat.pow_two]; exact this
      have e3 := lcG_map1 (c := cx prog (k + K + 1)) (n := s.length + 2) (tg := .nm 7) (g := ((chs raws c).map D.tup, none)) (ifs := .nil) (elt := .op true .dget (.cons (.v 3) (.cons (.meth (.v 1) M_lead (.cons (.v 6) (.cons (.v 7) .nil))) .nil))) (e := [some (.d (oBook b)), some (.d hd), some (.d (.lst raws)), some (.loc s.length), none, some (.loc (s.length + 1)), some (.d (.int jn)), none]) (s := s ++ [M.dct (dt t raws) raws vs, .lst ((List.range jn).map fun (sg : Nat) => .lst ((tbl b.ks hl raws sg).map .int))]) D.tup (fun row => .int (raws.idxOf (hl jn row))) (chs raws c) (hlen c hc.2) (fun row hrow acc r ha => by
          obtain ⟨rl, rm⟩ := chs_mem.mp hrow
          have el := fun st => hlead jn row j0 j1 (by omega) (fun x hx => hG.all x (rm x hx)) k st
          have hm := hF.mem hb.two j0 j1 (row := row) (by rw [hcc]; exact hrow)
          have hk := R.dt_key raws (hG.all _ hm)
          have hg := hD.get (hl jn row)
          unfold numF at hg
          rw [if_pos hm] at hg
          simp [lcG_cons, lcA, ho, hf, el, hk, hg, ha])
      have hs : sm jn = true := sm_of (by omega)
      have et : (tbl b.ks hl raws (jn : Int)).map D.int = (chs raws c).map fun row => .int (raws.idxOf (hl jn row)) := by
        unfold tbl
        rw [hcc, List.map_map]
        rfl
      rw [show ((jn : Int) + 1).toNat = jn + 1 by omega, List.range_succ]
      simp only [Int.toNat_natCast]
      rw [List.map_append, List.map_singleton, et]
      simp at e3
      simp [forG_cons, u_targets_2, bk, ec, e3, finC, hs])
  have o : okQ b.ks.length = true := okQ_of (by omega) (by omega)
  rw [at_targets]
  simp [dt] at e1
  simp at e2
  simp [dt] at e2
  have nl : ¬ s.length + 1 < s.length := by omega
  simp [runN_eq, b_targets, e1, o, hb.len, e2, leave_loc, tabsD, nl, Function.comp_def]
end
end G

set_option maxRecDepth 10000
namespace TT
/-- a list that is read in a store and in each one behind it -/
def IsL (s : Sto) (w : W) (ds : List D) : Prop := ∀ r, lstOf (s ++ r) w = some ds
theorem seq_of_lst {s : Sto} {w : W} {ds : List D} (h : lstOf s w = some ds) : seqOf s w = some ds := by
  cases w with
  | d x => cases x <;> simp_all [lstOf]
  | loc l => exact h
theorem IsL.lst {s : Sto} {w : W} {ds : List D} (h : IsL s w ds) (r : Sto) : lstOf (s ++ r) w = some ds := h r
theorem IsL.seq {s : Sto} {w : W} {ds : List D} (h : IsL s w ds) (r : Sto) : seqOf (s ++ r) w = some ds := seq_of_lst (h r)
theorem IsL.app {s : Sto} {w : W} {ds : List D} (h : IsL s w ds) (r : Sto) : IsL (s ++ r) w ds := fun q => by rw [List.append_assoc]; exact h _
theorem IsL.lst0 {s : Sto} {w : W} {ds : List D} (h : IsL s w ds) : lstOf s w = some ds := by simpa using h []
theorem IsL.seq0 {s : Sto} {w : W} {ds : List D} (h : IsL s w ds) : seqOf s w = some ds := seq_of_lst h.lst0
theorem isL_d (s : Sto) (ds : List D) : IsL s (.d (.lst ds)) ds := fun r => rfl
theorem isL_at (s r : Sto) (ds : List D) : IsL (s ++ .lst ds :: r) (.loc s.length) ds := fun q => by simp
theorem o_ix_seq {s : Sto} {w : W} {ds : List D} (h : seqOf s w = some ds) (i : Int) : opSem .ix [w, .d (.int i)] s = (R.of (atI ds i) s).bnd d1 := by
  cases w with
  | d x => cases x <;> simp_all [seqOf]
  | loc l =>
    rw [o_ix_loc, h]
theorem o_len_seq {s : Sto} {w : W} {ds : List D} (h : seqOf s w = some ds) : opSem .len [w] s = .ok (.w (.d (.int ds.length))) s := by
  cases w with
  | d x => cases x <;> simp_all [seqOf]
  | loc l => rw [o_len_loc, h]
theorem o_max_lst {s : Sto} {w : W} {n : Int} {ns : List Int} (h : lstOf s w = some ((n :: ns).map .int)) : opSem .max1 [w] s = .ok (.w (.d (.int (ns.foldl max n)))) s := by
  simp only [opSem, maxS, h, dInts_map, int1]
/-- what a table tells of a mood -/
def tmarks (n : Nat) (kinds : List Int) (i : Int) (t : List Int) : List Int :=
  (if t.length = n ∧ 1 < n then [gi kinds (gi t i)] else []) ++ (if t.length = n * n ∧ 1 < n then ((List.range n).map fun (o : Nat) => [gi kinds (gi t (i * n + o)), gi kinds (gi t (o * n + i))]).flatten else [])
def marks (kinds : List Int) (ts : List (List Int)) (i : Int) : List Int := gi kinds i :: (ts.map (tmarks kinds.length kinds i)).flatten
theorem tmarks_len (n : Nat) (hn : n ≤ 100) (kinds : List Int) (i : Int) (t : List Int) : (tmarks n kinds i t).length ≤ 300 := by
  unfold tmarks
  rw [List.length_append]
  have : ((List.range n).map fun (o : Nat) => [gi kinds (gi t (i * n + o)), gi kinds (gi t (o * n + i))]).flatten.length = n * 2 := by
    rw [flat_len _ 2 _ (by simp), List.length_range]
  split <;> split <;> simp_all <;> omega
theorem flat_len_le {α β : Type} (f : α → List β) (m : Nat) : ∀ l : List α, (∀ x ∈ l, (f x).length ≤ m) → ((l.map f).flatten).length ≤ l.length * m
  | [], _ => by simp
  | x :: l, h => by
    simp only [List.map_cons, List.flatten_cons, List.length_append, List.length_cons]
    have h1 := h x (by simp)
    have h2 := flat_len_le f m l fun y hy => h y (by simp [hy])
    rw [Nat.succ_mul]
    omega
end TT
namespace G
open TT
/-- tables of so many moods -/
structure TabsOk (n : Nat) (ts : List (List Int)) : Prop where
  six : ts.length ≤ 6
  pos : 1 ≤ n
  most : n ≤ 100
  rng : ∀ t ∈ ts, ∀ x ∈ t, 0 ≤ x ∧ x < (n : Int)
theorem marks_loop1 {n : Nat} {ts : List (List Int)} (T : TabsOk n ts) {kinds : List Int} (hk : kinds.length = n) (k m : Nat) (S : Sto) (w : W) (hw : IsL S w (kinds.map .int)) (w0 : W) (w3 : W) (i : Int) (i0 : 0 ≤ i) (i1 : i < n) (t : List Int) (ht : t ∈ ts) (hl : t.length = n * n) (acc : List Int) (ha : acc.length ≤ 3000) (g : List D) :
    forG (cx prog k) m (.nm 7) [7] l_marks_of_1 (g, none) (rngD 0 n) [some w0, some w, some (.d (.int n)), some w3, some (.d (.int i)), some (.loc S.length), some (.d (.lst (t.map .int))), none] (S ++ [.lst (acc.map .int)]) = .ok (.nx, [some w0, some w, some (.d (.int n)), some w3, some (.d (.int i)), some (.loc S.length), some (.d (.lst (t.map .int))), none]) (S ++ [.lst ((acc ++ ((List.range n).map fun (o : Nat) => [gi kinds (gi t (i * n + o)), gi kinds (gi t (o * n + i))]).flatten).map .int)]) := by
  have e := forG_rng (c := cx prog k) (n := m) (tg := .nm 7) (kill := [7]) (body := l_marks_of_1) (g := (g, none))
    (fun _ => [some w0, some w, some (.d (.int n)), some w3, some (.d (.int i)), some (.loc S.length), some (.d (.lst (t.map .int))), none]) (fun j => S ++ [.lst ((acc ++ ((List.range j.toNat).map fun (o : Nat) => [gi kinds (gi t (i * n + o)), gi kinds (gi t (o * n + i))]).flatten).map .int)]) (i := 0) (m := n) (by omega) (fun j r j0 j1 => by
      obtain ⟨jn, rfl⟩ := Int.eq_ofNat_of_zero_le j0
      have hn := T.most
      have fl : (((List.range jn).map fun (o : Nat) => [gi kinds (gi t (i * n + o)), gi kinds (gi t (o * n + i))]).flatten).length = jn * 2 := by
        rw [flat_len _ 2 _ (by simp), List.length_range]
      rw [show ((jn : Int) + 1).toNat = jn + 1 by omega, List.range_succ]
      simp only [Int.toNat_natCast, List.map_append, List.flatten_append, List.map_cons, List.map_nil, List.flatten_cons, List.flatten_nil, List.append_nil]
      generalize ((List.range jn).map fun (o : Nat) => [gi kinds (gi t (i * n + o)), gi kinds (gi t (o * n + i))]).flatten = A at *
      have in1 : 0 ≤ i * n + jn := by have := Int.mul_nonneg i0 (show (0 : Int) ≤ n by omega); omega
      have in2 : i * n + jn < t.length := by
        have : i * (n : Int) ≤ ((n : Int) - 1) * n := Int.mul_le_mul_of_nonneg_right (by omega) (by omega)
        rw [Int.sub_mul] at this
        rw [hl]; simp; omega
      have in3 : 0 ≤ (jn : Int) * n + i := by have := Int.mul_nonneg j0 (show (0 : Int) ≤ n by omega); omega
      have in4 : (jn : Int) * n + i < t.length := by
        have : (jn : Int) * (n : Int) ≤ ((n : Int) - 1) * n := Int.mul_le_mul_of_nonneg_right (by omega) (by omega)
        rw [Int.sub_mul] at this
        rw [hl]; simp; omega
      have r1 := T.rng t ht _ (gi_mem in1 in2)
      have r2 := T.rng t ht _ (gi_mem in3 in4)
      have a1 : atI t (i * n + jn) = some (gi t (i * n + jn)) := atI_ok in1 in2
      have a2 : atI t ((jn : Int) * n + i) = some (gi t (jn * n + i)) := atI_ok in3 in4
      have a3 : atI kinds (gi t (i * n + jn)) = some (gi kinds (gi t (i * n + jn))) := atI_ok r1.1 (by rw [hk]; exact r1.2)
      have a4 : atI kinds (gi t (jn * n + i)) = some (gi kinds (gi t (jn * n + i))) := atI_ok r2.1 (by rw [hk]; exact r2.2)
      have bi : bg i = true := bg_of (by omega) (by omega)
      have bj : bg (jn : Int) = true := bg_of (by omega) (by omega)
      have s1 : sm (acc.length + A.length) = true := sm_of (by omega)
      have s2 : sm (acc.length + (A.length + 1)) = true := sm_of (by omega)
      have q := fun r => o_ix_seq (hw.seq r)
      simp [forG_cons, u_marks_of_1, q, a1, a2, a3, a4, bi, bj, s1, s2, List.append_assoc])
  simpa using e
theorem marks_loop2 {n : Nat} {ts : List (List Int)} (T : TabsOk n ts) {kinds : List Int} (hk : kinds.length = n) (k m : Nat) (S : Sto) (w : W) (hw : IsL S w (kinds.map .int)) (w0 : W) (w3 : W) (i : Int) (i0 : 0 ≤ i) (i1 : i < n) (g : List D) (a0 : Int) :
    forG (cx prog k) m (.nm 6) [6, 7] l_marks_of_2 (g, none) (ts.map fun t => .lst (t.map .int)) [some w0, some w, some (.d (.int n)), some w3, some (.d (.int i)), some (.loc S.length), none, none] (S ++ [.lst [.int a0]]) = .ok (.nx, [some w0, some w, some (.d (.int n)), some w3, some (.d (.int i)), some (.loc S.length), none, none]) (S ++ [.lst ((a0 :: (ts.map (tmarks n kinds i)).flatten).map .int)]) := by
  have e := forG_map (c := cx prog k) (n := m) (tg := .nm 6) (kill := [6, 7]) (body := l_marks_of_2) (g := (g, none)) (fun t : List Int => D.lst (t.map .int))
    (fun _ => [some w0, some w, some (.d (.int n)), some w3, some (.d (.int i)), some (.loc S.length), none, none]) (fun p => S ++ [.lst ((a0 :: (p.map (tmarks n kinds i)).flatten).map .int)]) ts (fun p t q r hp => by
      have ht : t ∈ ts := by rw [hp]; simp
      have hpl : p.length ≤ 6 := by have := T.six; rw [hp] at this; simp at this; omega
      have fl := flat_len_le (tmarks n kinds i) 300 p fun x _ => tmarks_len n T.most kinds i x
      have fl2 : ((p.map (tmarks n kinds i)).flatten).length ≤ 1800 := by omega
      rw [List.map_append, List.flatten_append]
      simp only [List.map_cons, List.map_nil, List.flatten_cons, List.flatten_nil, List.append_nil]
      generalize (p.map (tmarks n kinds i)).flatten = A at *
      have bn : bg (n : Int) = true := bg_of (by omega) (by have := T.most; omega)
      have q := fun r => o_ix_seq (hw.seq r)
      have on : okQ (n : Int) = true := okQ_of (by omega) (by have := T.most; omega)
      have s1 : sm (A.length + 1) = true := sm_of (by omega)
      have hn := T.most
      by_cases h1 : 1 < n
      · have h1' : (1 : Int) < n := by omega
        have nn : ¬ n = n * n := by
          intro e
          have := Nat.mul_lt_mul_of_pos_left h1 (by omega : 0 < n)
          omega
        by_cases l1 : t.length = n
        · have r1 := T.rng t ht _ (gi_mem i0 (by omega))
          have a1 : atI t i = some (gi t i) := atI_ok i0 (by omega)
          have a2 : atI kinds (gi t i) = some (gi kinds (gi t i)) := atI_ok r1.1 (by omega)
          have nn' : ¬ (n : Int) = n * n := by rw [← Int.natCast_mul]; omega
          simp [forG_cons, u_marks_of_2, q, a1, a2, h1, h1', l1, nn, nn', bn, fair, D.pl, s1, tmarks]
        · have l1' : ¬ (t.length : Int) = n := by omega
          by_cases l2 : t.length = n * n
          · have l2' : (t.length : Int) = n * n := by rw [l2]; simp
            have e2 := fun g => marks_loop1 T hk k (m + 0) S w hw w0 w3 i i0 i1 t ht l2 (a0 :: A) (by simp; omega) g
            have nn2 : ¬ n * n = n := fun e => nn e.symm
            have nn' : ¬ ((n : Int) * n = n) := by rw [← Int.natCast_mul]; omega
            have e3 := marks_loop1 T hk k (S.length + 1) S w hw w0 w3 i i0 i1 t ht l2 (a0 :: A) (by simp; omega) (rngD 0 n)
            simp at e3
            simp [forG_cons, u_marks_of_2, h1, h1', l2, nn2, nn', bn, fair, D.pl, on, e3, tmarks]
          · have l2' : ¬ (t.length : Int) = n * n := by rw [← Int.natCast_mul]; omega
            simp [forG_cons, u_marks_of_2, h1, h1', l1, l1', l2, l2', bn, fair, D.pl, tmarks]
      · have e1 : n = 1 := by have := T.pos; omega
        subst e1
        by_cases l1 : t.length = 1
        · simp [forG_cons, u_marks_of_2, l1, bn, fair, D.pl, tmarks]
        · have l1' : ¬ (t.length : Int) = 1 := by omega
          simp [forG_cons, u_marks_of_2, l1, l1', bn, fair, D.pl, tmarks])
  simpa using e
end G

/-! plain: kinds -/
namespace TT
theorem sub_len {α : Type} [DecidableEq α] : ∀ {r l : List α}, r.Nodup → (∀ x ∈ r, x ∈ l) → r.length ≤ l.length
  | [], l, _, _ => by simp
  | x :: r, l, hn, h => by
    rw [List.nodup_cons] at hn
    have hx := h x (by simp)
    have := sub_len (r := r) (l := l.erase x) hn.2 (fun y hy => (List.mem_erase_of_ne (fun e : y = x => hn.1 (by rw [← e]; exact hy))).mpr (h y (by simp [hy])))
    rw [List.length_erase_of_mem hx] at this
    have : 0 < l.length := List.length_pos_of_mem hx
    simp only [List.length_cons]
    omega
theorem nodup_of_cover {α : Type} [DecidableEq α] : ∀ {l r : List α}, r.Nodup → (∀ x ∈ r, x ∈ l) → l.length ≤ r.length → l.Nodup
  | [], _, _, _, _ => by simp
  | x :: l, r, hn, h, hl => by
    simp only [List.length_cons] at hl
    have hx : x ∉ l := by
      intro q
      have := sub_len (r := r) (l := l) hn (fun y hy => by
        rcases List.mem_cons.mp (h y hy) with e | e
        · rw [e]; exact q
        · exact e)
      omega
    rw [List.nodup_cons]
    refine ⟨hx, nodup_of_cover (r := r.erase x) (hn.erase x) (fun y hy => ?_) ?_⟩
    · have hy' := List.mem_of_mem_erase hy
      have ne : y ≠ x := fun e => by subst e; exact (List.Nodup.not_mem_erase hn) hy
      rcases List.mem_cons.mp (h y hy') with e | e
      · exact absurd e ne
      · exact e
    · have := List.length_erase (a := x) (l := r)
      split at this <;> omega
/-- each once, as they come -/
def un {α : Type} [DecidableEq α] (p : List α) : List α := p.foldl (fun u m => putKs m u) []
section
variable {α : Type} [DecidableEq α]
theorem un_snoc (p : List α) (x : α) : un (p ++ [x]) = putKs x (un p) := by simp [un]
theorem un_mem (p : List α) (y : α) : y ∈ un p ↔ y ∈ p := by
  suffices ∀ q : List α, ∀ p : List α, p = q.reverse → (y ∈ un p ↔ y ∈ p) from this p.reverse p (by simp)
  intro q
  induction q with
  | nil => intro p e; subst e; simp [un]
  | cons x q ih =>
    intro p e
    subst e
    rw [List.reverse_cons, un_snoc]
    have := ih q.reverse rfl
    unfold putKs
    split
    · rename_i h
      rw [this, List.mem_append, List.mem_singleton]
      constructor
      · exact .inl
      · rintro (h' | rfl)
        · exact h'
        · exact (ih q.reverse rfl).mp h
    · rw [List.mem_append, this, List.mem_append]
theorem un_nodup (p : List α) : (un p).Nodup := by
  suffices ∀ q : List α, ∀ p : List α, p = q.reverse → (un p).Nodup from this p.reverse p (by simp)
  intro q
  induction q with
  | nil => intro p e; subst e; simp [un]
  | cons x q ih =>
    intro p e
    subst e
    rw [List.reverse_cons, un_snoc]
    unfold putKs
    split
    · exact ih _ rfl
    · rename_i h
      rw [List.nodup_append]
      exact ⟨ih _ rfl, by simp, fun a ha b hb e => by rw [List.mem_singleton] at hb; subst hb; subst e; exact h ha⟩
theorem un_len (p : List α) : (un p).length ≤ p.length := sub_len (un_nodup p) fun x hx => (un_mem p x).mp hx
theorem un_ext (p : List α) (x : α) {y : α} (h : y ∈ p) : (un (p ++ [x])).idxOf y = (un p).idxOf y := by
  rw [un_snoc]
  unfold putKs
  split
  · rfl
  · rw [List.idxOf_append, if_pos ((un_mem p y).mpr h)]
theorem idx_inj {l : List α} {x y : α} (hx : x ∈ l) (hy : y ∈ l) (h : l.idxOf x = l.idxOf y) : x = y := by
  have h1 := List.getElem_idxOf (List.idxOf_lt_length_of_mem hx)
  have h2 := List.getElem_idxOf (List.idxOf_lt_length_of_mem hy)
  rw [← h1, ← h2]
  congr 1
theorem idx_get {l : List α} (hn : l.Nodup) {i : Nat} (h : i < l.length) : l.idxOf l[i] = i := by
  have h2 : l.idxOf l[i] < l.length := List.idxOf_lt_length_of_mem (List.getElem_mem h)
  have h1 := List.getElem_idxOf h2
  exact (List.getElem_inj hn).mp h1
end
/-- where a thing stands -/
def ixf {α : Type} [DecidableEq α] (l : List α) (x : α) : Nat := l.idxOf x
theorem ixf_lt {α : Type} [DecidableEq α] {l : List α} {x : α} (h : x ∈ l) : ixf l x < l.length := List.idxOf_lt_length_of_mem h
theorem ixf_inj {α : Type} [DecidableEq α] {l : List α} {x y : α} (hx : x ∈ l) (hy : y ∈ l) (h : ixf l x = ixf l y) : x = y := idx_inj hx hy h
theorem ixf_get {α : Type} [DecidableEq α] {l : List α} (hn : l.Nodup) {i : Nat} (h : i < l.length) : ixf l l[i] = i := idx_get hn h
theorem ixf_cons {α : Type} [DecidableEq α] (z : α) (l : List α) (y : α) : ixf (z :: l) y = if z = y then 0 else ixf l y + 1 := by
  unfold ixf
  rw [List.idxOf_cons]
  by_cases e : z = y
  · simp [e]
  · rw [if_neg e, beq_false_of_ne e]; rfl
theorem ixf_map {α β : Type} [DecidableEq α] [DecidableEq β] (f : α → β) (hf : ∀ a b, f a = f b → a = b) (y : α) : ∀ l : List α, ixf (l.map f) (f y) = ixf l y
  | [] => rfl
  | z :: l => by
    rw [List.map_cons, ixf_cons, ixf_cons, ixf_map f hf y l]
    by_cases e : z = y
    · rw [if_pos e, if_pos (by rw [e])]
    · rw [if_neg e, if_neg fun q => e (hf _ _ q)]
theorem rng_nodup (c : Nat) : ((List.range c).map fun v => ((v : Nat) : Int)).Nodup := by
  unfold List.Nodup
  rw [List.pairwise_map]
  exact List.nodup_range.imp fun h e => h (by omega)
theorem max_is : ∀ {ns : List Int} {n m : Int}, m ∈ n :: ns → (∀ y ∈ n :: ns, y ≤ m) → ns.foldl max n = m
  | [], n, m, h, _ => by simp at h; simp [h]
  | a :: ns, n, m, h, g => by
    rw [List.foldl_cons]
    refine max_is ?_ fun y hy => ?_
    · have h1 := g n (by simp)
      have h2 := g a (by simp)
      simp only [List.mem_cons] at h ⊢
      rcases h with rfl | rfl | h
      · left; omega
      · left; omega
      · exact .inr h
    · rcases List.mem_cons.mp hy with rfl | hy
      · have h1 := g n (by simp)
        have h2 := g a (by simp)
        omega
      · exact g y (by simp [hy])
/-- kinds 0 .. c - 1, each of some mood -/
structure KOk (n c : Nat) (K : List Int) : Prop where
  len : K.length = n
  rng : ∀ x ∈ K, 0 ≤ x ∧ x < (c : Int)
  all : ∀ v : Nat, v < c → (v : Int) ∈ K
  pos : 1 ≤ c
theorem KOk.le {n c : Nat} {K : List Int} (h : KOk n c K) : c ≤ n := by
  have := sub_len (r := (List.range c).map fun v => ((v : Nat) : Int)) (l := K) (rng_nodup c) (fun x hx => by
      obtain ⟨v, hv, rfl⟩ := List.mem_map.mp hx
      exact h.all v (List.mem_range.mp hv))
  rw [List.length_map, List.length_range, h.len] at this
  exact this
theorem KOk.max {n c : Nat} {K : List Int} (h : KOk n c K) : ∃ k ks, K = k :: ks ∧ ks.foldl max k + 1 = c := by
  have hp := h.pos
  have hm := h.all (c - 1) (by omega)
  cases K with
  | nil => cases hm
  | cons k ks =>
    refine ⟨k, ks, rfl, ?_⟩
    rw [max_is hm fun y hy => by have := h.rng y hy; omega]
    omega
/-- one turn of the numbering -/
def stepK (ts : List (List Int)) (K : List Int) : List Int :=
  let M := (List.range K.length).map fun (i : Nat) => marks K ts i
  M.map fun m => ((ixf (un M) m : Nat) : Int)
def mksL (ts : List (List Int)) (K : List Int) : List (List Int) := (List.range K.length).map fun (i : Nat) => marks K ts i
theorem stepK_eq (ts : List (List Int)) (K : List Int) : stepK ts K = (mksL ts K).map fun m => ((ixf (un (mksL ts K)) m : Nat) : Int) := rfl
theorem mksL_at {ts : List (List Int)} {K : List Int} {i : Int} (h0 : 0 ≤ i) (h1 : i < K.length) : gi (mksL ts K) i = marks K ts i := by
  obtain ⟨n, rfl⟩ := Int.eq_ofNat_of_zero_le h0
  unfold mksL
  have : n < K.length := by omega
  exact gi_of (by simp [this])
theorem mksL_len (ts : List (List Int)) (K : List Int) : (mksL ts K).length = K.length := by simp [mksL]
theorem stepK_at {ts : List (List Int)} {K : List Int} {i : Int} (h0 : 0 ≤ i) (h1 : i < K.length) : gi (stepK ts K) i = ((ixf (un (mksL ts K)) (marks K ts i) : Nat) : Int) := by
  rw [stepK_eq, gi_map _ h0 (by rw [mksL_len]; exact h1), mksL_at h0 h1]
theorem marks_mem {ts : List (List Int)} {K : List Int} {i : Int} (h0 : 0 ≤ i) (h1 : i < K.length) : marks K ts i ∈ mksL ts K := by
  rw [← mksL_at h0 h1]
  exact gi_mem h0 (by rw [mksL_len]; exact h1)
theorem stepK_iff {ts : List (List Int)} {K : List Int} {i j : Int} (h0 : 0 ≤ i) (h1 : i < K.length) (j0 : 0 ≤ j) (j1 : j < K.length) : gi (stepK ts K) i = gi (stepK ts K) j ↔ marks K ts i = marks K ts j := by
  rw [stepK_at h0 h1, stepK_at j0 j1]
  constructor
  · intro h
    exact ixf_inj ((un_mem _ _).mpr (marks_mem h0 h1)) ((un_mem _ _).mpr (marks_mem j0 j1)) (by omega)
  · intro h; rw [h]
theorem stepK_ok {ts : List (List Int)} {K : List Int} (hK : 1 ≤ K.length) : KOk K.length (un (mksL ts K)).length (stepK ts K) := by
  refine ⟨by rw [stepK_eq]; simp [mksL_len], fun x hx => ?_, fun v hv => ?_, ?_⟩
  · rw [stepK_eq] at hx
    obtain ⟨m, hm, rfl⟩ := List.mem_map.mp hx
    have := ixf_lt ((un_mem _ _).mpr hm)
    omega
  · rw [stepK_eq, List.mem_map]
    refine ⟨(un (mksL ts K))[v], (un_mem _ _).mp (List.getElem_mem hv), ?_⟩
    rw [ixf_get (un_nodup _)]
  · have : marks K ts 0 ∈ un (mksL ts K) := (un_mem _ _).mpr (marks_mem (by omega) (by omega))
    exact List.length_pos_of_mem this
/-- stays as it is -/
def Stable (ts : List (List Int)) (K : List Int) : Prop := ∀ i j : Int, 0 ≤ i → i < K.length → 0 ≤ j → j < K.length → gi K i = gi K j → marks K ts i = marks K ts j
theorem marks_head (K : List Int) (ts : List (List Int)) (i : Int) : (marks K ts i).head? = some (gi K i) := rfl
theorem stepK_ref {ts : List (List Int)} {K : List Int} {i j : Int} (h0 : 0 ≤ i) (h1 : i < K.length) (j0 : 0 ≤ j) (j1 : j < K.length) (h : gi (stepK ts K) i = gi (stepK ts K) j) : gi K i = gi K j := by
  have := congrArg List.head? ((stepK_iff h0 h1 j0 j1).mp h)
  rw [marks_head, marks_head] at this
  exact Option.some.inj this
/-- no more kinds than before: the same kinds -/
theorem stepK_same {ts : List (List Int)} {K : List Int} {n c : Nat} (h : KOk n c K) (hc : (un (mksL ts K)).length ≤ c) : Stable ts K := by
  have hd : ((un (mksL ts K)).map fun m => m.headD 0).Nodup := by
    refine nodup_of_cover (r := (List.range c).map fun v => ((v : Nat) : Int)) (rng_nodup c) ?_ (by simpa using hc)
    · intro x hx
      obtain ⟨v, hv, rfl⟩ := List.mem_map.mp hx
      obtain ⟨i, i0, i1, e⟩ := G.mem_gi (h.all v (List.mem_range.mp hv))
      refine List.mem_map.mpr ⟨marks K ts i, (un_mem _ _).mpr (marks_mem i0 i1), ?_⟩
      rw [← e]; rfl
  intro i j i0 i1 j0 j1 e
  have m1 := (un_mem _ _).mpr (marks_mem (ts := ts) i0 i1)
  have m2 := (un_mem _ _).mpr (marks_mem (ts := ts) j0 j1)
  obtain ⟨a, ha, ea⟩ := List.mem_iff_getElem.mp m1
  obtain ⟨b, hb, eb⟩ := List.mem_iff_getElem.mp m2
  have : ((un (mksL ts K)).map fun m => m.headD 0)[a]'(by simpa using ha) = ((un (mksL ts K)).map fun m => m.headD 0)[b]'(by simpa using hb) := by
    simp only [List.getElem_map, ea, eb]
    exact e
  have := (List.getElem_inj hd).mp this
  subst this
  rw [← ea, ← eb]
/-- marks of kinds that hang on others -/
theorem marks_map {ts : List (List Int)} {K K' : List Int} {φ : Int → Int} (T : G.TabsOk K.length ts) (hl : K'.length = K.length) (h : ∀ a : Int, 0 ≤ a → a < K.length → gi K' a = φ (gi K a)) {i : Int} (i0 : 0 ≤ i) (i1 : i < K.length) : marks K' ts i = (marks K ts i).map φ := by
  unfold marks
  rw [List.map_cons, h i i0 i1]
  congr 1
  rw [List.map_flatten, List.map_map]
  congr 1
  refine List.map_congr_left fun t ht => ?_
  have hr : ∀ x : Int, 0 ≤ x → x < t.length → gi K' (gi t x) = φ (gi K (gi t x)) := fun x x0 x1 => by
    have := T.rng t ht _ (gi_mem x0 x1)
    exact h _ this.1 this.2
  simp only [Function.comp_apply]
  unfold tmarks
  rw [List.map_append, hl]
  congr 1
  · split
    · rename_i q
      simp only [List.map_cons, List.map_nil]
      rw [hr i i0 (by omega)]
    · rfl
  · split
    · rename_i q
      rw [List.map_flatten, List.map_map]
      congr 1
      refine List.map_congr_left fun o ho => ?_
      have ho := List.mem_range.mp ho
      have hln := q.1
      have b1 : i * (K.length : Int) ≤ ((K.length : Int) - 1) * K.length := Int.mul_le_mul_of_nonneg_right (by omega) (by omega)
      have b2 : (o : Int) * (K.length : Int) ≤ ((K.length : Int) - 1) * K.length := Int.mul_le_mul_of_nonneg_right (by omega) (by omega)
      rw [Int.sub_mul] at b1 b2
      have b3 := Int.mul_nonneg i0 (show (0 : Int) ≤ K.length by omega)
      have b4 := Int.mul_nonneg (show (0 : Int) ≤ o by omega) (show (0 : Int) ≤ K.length by omega)
      have e : (t.length : Int) = K.length * K.length := by rw [hln]; simp
      simp only [Function.comp_apply, List.map_cons, List.map_nil]
      rw [hr _ (by omega) (by omega), hr _ (by omega) (by omega)]
    · rfl
theorem stable_step {ts : List (List Int)} {K : List Int} (T : G.TabsOk K.length ts) (h : Stable ts K) : Stable ts (stepK ts K) := by
  have hl : (stepK ts K).length = K.length := by rw [stepK_eq]; simp [mksL_len]
  have ex : ∀ v : Int, ∃ w : Int, ∀ a : Int, 0 ≤ a → a < K.length → gi K a = v → gi (stepK ts K) a = w := by
    intro v
    by_cases q : v ∈ K
    · obtain ⟨i, i0, i1, e⟩ := G.mem_gi q
      exact ⟨gi (stepK ts K) i, fun a a0 a1 ea => (stepK_iff a0 a1 i0 i1).mpr (h a i a0 a1 i0 i1 (by rw [ea, e]))⟩
    · exact ⟨0, fun a a0 a1 ea => absurd (ea ▸ gi_mem a0 a1) q⟩
  obtain ⟨φ, hφ⟩ := Classical.axiomOfChoice ex
  intro i j i0 i1 j0 j1 e
  rw [hl] at i1 j1
  rw [marks_map (φ := φ) T hl (fun a a0 a1 => hφ _ a a0 a1 rfl) i0 i1, marks_map (φ := φ) T hl (fun a a0 a1 => hφ _ a a0 a1 rfl) j0 j1, (stepK_iff i0 i1 j0 j1).mp e]
theorem flat_inj {α β : Type} (f g : α → List β) : ∀ (l : List α), (∀ x ∈ l, (f x).length = (g x).length) → (l.map f).flatten = (l.map g).flatten → ∀ x ∈ l, f x = g x
  | [], _, _, x, h => by cases h
  | y :: l, hl, e, x, h => by
    simp only [List.map_cons, List.flatten_cons] at e
    obtain ⟨e1, e2⟩ := List.append_inj e (hl y (by simp))
    rcases List.mem_cons.mp h with rfl | h
    · exact e1
    · exact flat_inj f g l (fun z hz => hl z (by simp [hz])) e2 x h
theorem tmarks_same (n : Nat) (K : List Int) (i j : Int) (t : List Int) : (tmarks n K i t).length = (tmarks n K j t).length := by
  unfold tmarks
  rw [List.length_append, List.length_append]
  congr 1
  · split <;> rfl
  · split
    · rw [flat_len _ 2 _ (by simp), flat_len _ 2 _ (by simp)]
    · rfl
/-- what a stable numbering tells of tables -/
theorem Stable.one {ts : List (List Int)} {K : List Int} (h : Stable ts K) {t : List Int} (ht : t ∈ ts) (hl : t.length = K.length) {i j : Int} (i0 : 0 ≤ i) (i1 : i < K.length) (j0 : 0 ≤ j) (j1 : j < K.length) (e : gi K i = gi K j) : gi K (gi t i) = gi K (gi t j) := by
  by_cases h1 : 1 < K.length
  · have := h i j i0 i1 j0 j1 e
    unfold marks at this
    injection this with _ this
    have := flat_inj _ _ ts (fun x _ => tmarks_same _ _ _ _ _) this t ht
    unfold tmarks at this
    have hh : t.length = K.length ∧ 1 < K.length := ⟨hl, h1⟩
    rw [if_pos hh, if_pos hh] at this
    simpa using (List.append_inj this (by simp)).1
  · have e1 : i = 0 := by omega
    have e2 : j = 0 := by omega
    rw [e1, e2]
theorem Stable.two {ts : List (List Int)} {K : List Int} (h : Stable ts K) {t : List Int} (ht : t ∈ ts) (hl : t.length = K.length * K.length) {i j : Int} (i0 : 0 ≤ i) (i1 : i < K.length) (j0 : 0 ≤ j) (j1 : j < K.length) (e : gi K i = gi K j) {o : Int} (o0 : 0 ≤ o) (o1 : o < K.length) :
    gi K (gi t (i * K.length + o)) = gi K (gi t (j * K.length + o)) ∧ gi K (gi t (o * K.length + i)) = gi K (gi t (o * K.length + j)) := by
  by_cases h1 : 1 < K.length
  · have := h i j i0 i1 j0 j1 e
    unfold marks at this
    injection this with _ this
    have := flat_inj _ _ ts (fun x _ => tmarks_same _ _ _ _ _) this t ht
    unfold tmarks at this
    have l1 : ¬ (t.length = K.length ∧ 1 < K.length) := by
      intro q
      have := Nat.mul_lt_mul_of_pos_left h1 (by omega : 0 < K.length)
      omega
    rw [if_neg l1, if_neg l1, if_pos ⟨hl, h1⟩, if_pos ⟨hl, h1⟩] at this
    simp only [List.nil_append] at this
    obtain ⟨on, rfl⟩ := Int.eq_ofNat_of_zero_le o0
    have := flat_inj _ _ _ (fun x _ => by simp) this on (List.mem_range.mpr (by omega))
    simpa using this
  · have e1 : i = 0 := by omega
    have e2 : j = 0 := by omega
    rw [e1, e2]
    exact ⟨rfl, rfl⟩
end TT

set_option maxRecDepth 10000
namespace G
open TT
def mD1 (m : List Int) : D := .tup (m.map .int)
theorem kn_ints (n : Nat) : ∀ l : List Int, Ds.kn n (l.map .int) = true
  | [] => by simp [Ds.kn]
  | x :: l => by simp [Ds.kn, D.kn, kn_ints n l]
theorem mD1_inj {a b : List Int} : mD1 a = mD1 b ↔ a = b := by
  unfold mD1
  rw [D.tup.injEq]
  exact map_int_inj
theorem mD1_raw (m : List Int) : keysOk 2 (mD1 m) = true ∧ kindK 3 (mD1 m) = 2 ∧ keysOk 3 (mD1 m) = true := by
  simp [keysOk, kindK, mD1, keyN, key1, kn_ints]
theorem marks_loop3 {n : Nat} {ts : List (List Int)} (T : TabsOk n ts) {kinds : List Int} (hk : kinds.length = n) (k m : Nat) (s : Sto) (w : W) (hw : IsL s w (kinds.map .int)) (g : List D) :
    ∃ J : Sto, forG (cx prog k) m (.nm 4) [4, 5, 6, 7] l_marks_of_3 (g, none) (rngD 0 n) [some (.d (tabsD ts)), some w, some (.d (.int n)), some (.loc s.length), none, none, none, none] (s ++ [.lst []]) = .ok (.nx, [some (.d (tabsD ts)), some w, some (.d (.int n)), some (.loc s.length), none, none, none, none]) (s ++ .lst ((mksL ts kinds).map mD1) :: J) := by
  obtain ⟨J, h1, h2⟩ := forG_inv (c := cx prog k) (n := m) (tg := .nm 4) (kill := [4, 5, 6, 7]) (body := l_marks_of_3) (g := (g, none))
    (fun (_ : Int) (_ : Int × Sto) => [some (.d (tabsD ts)), some w, some (.d (.int n)), some (.loc s.length), none, none, none, none]) (fun a => s ++ .lst ((List.range a.1.toNat).map fun (i : Nat) => mD1 (marks kinds ts i)) :: a.2) (fun j a => a.1 = j) (i := 0) (m := n) (by omega) (fun j a r j0 j1 ha => by
      obtain ⟨a1, J⟩ := a
      simp only at ha
      subst ha
      obtain ⟨jn, rfl⟩ := Int.eq_ofNat_of_zero_le j0
      refine ⟨((jn : Int) + 1, J ++ [.lst ((marks kinds ts jn).map .int)]), rfl, ?_⟩
      simp only
      rw [show ((jn : Int) + 1).toNat = jn + 1 by omega, List.range_succ]
      simp only [Int.toNat_natCast, List.map_append, List.map_cons, List.map_nil]
      have e2 := marks_loop2 T hk k (s ++ M.lst ((List.range jn).map fun (i : Nat) => mD1 (marks kinds ts i)) :: (J ++ [M.lst [.int (gi kinds jn)]])).length (s ++ .lst ((List.range jn).map fun (i : Nat) => mD1 (marks kinds ts i)) :: J) w (hw.app _) (.d (tabsD ts)) (.loc s.length) jn j0 j1 (ts.map fun t => .lst (t.map .int)) (gi kinds jn)
      have a1 : atI kinds jn = some (gi kinds jn) := atI_ok j0 (by omega)
      have q := o_ix_seq (hw.seq (.lst ((List.range jn).map fun (i : Nat) => mD1 (marks kinds ts i)) :: J)) jn
      have hs : sm jn = true := sm_of (by have := T.most; omega)
      have hm : (marks kinds ts jn) = gi kinds jn :: (ts.map (tmarks n kinds jn)).flatten := by rw [← hk]; rfl
      rw [hm]
      simp [List.append_assoc, tabsD, mD1] at e2 q
      simp [forG_cons, u_marks_of_3, q, a1, tabsD, e2, hs, mD1, List.append_assoc])
    ((0 : Int), ([] : Sto)) rfl
  obtain ⟨a1, J⟩ := J
  have h1 : a1 = n := h1
  subst h1
  refine ⟨J, ?_⟩
  simp at h2
  unfold mksL
  rw [hk]
  simpa [Function.comp_def] using h2
theorem marks_of_eq {n : Nat} {ts : List (List Int)} (T : TabsOk n ts) {kinds : List Int} (hk : kinds.length = n) (k : Nat) (s : Sto) (w : W) (hw : IsL s w (kinds.map .int)) :
    call prog (k + 1) F_marks_of [.d (tabsD ts), w] s = .ok (.d (.lst ((mksL ts kinds).map mD1))) s := by
  obtain ⟨J, e⟩ := marks_loop3 T hk k (s.length + 1) s w hw (rngD 0 n)
  have ol := o_len_seq hw.seq0
  have on : okQ (n : Int) = true := okQ_of (by omega) (by have := T.most; omega)
  rw [at_marks_of]
  simp [runN_eq, b_marks_of, ol, hk, on, e, leave_loc]
end G

set_option maxRecDepth 10000
namespace G
open TT
/-- the marks numbered so far -/
theorem kinds_loop1 (k m : Nat) (S : Sto) (w0 w1 w2 : W) (g : List D) : ∀ (q p : List (List Int)) (vs : List D), DictIs ((un p).map mD1) vs (numF ((un p).map mD1)) → (p ++ q).length ≤ 1000 →
    ∃ vs', forG (cx prog k) m (.nm 5) [5] l_kinds_of_1 (g, none) (q.map mD1) [some w0, some w1, some w2, some (.loc S.length), some (.loc (S.length + 1)), none] (S ++ [.dct (dt 2 ((un p).map mD1)) ((un p).map mD1) vs, .lst (p.map fun m => .int (ixf (un p) m))]) = .ok (.nx, [some w0, some w1, some w2, some (.loc S.length), some (.loc (S.length + 1)), none]) (S ++ [.dct (dt 2 ((un (p ++ q)).map mD1)) ((un (p ++ q)).map mD1) vs', .lst ((p ++ q).map fun m => .int (ixf (un (p ++ q)) m))]) := by
  intro q
  induction q with
  | nil => intro p vs _ _; exact ⟨vs, by simp⟩
  | cons x q ih =>
    intro p vs hD hl
    have hmem : ∀ y, mD1 y ∈ (un p).map mD1 ↔ y ∈ un p := fun y => by
      rw [List.mem_map]
      exact ⟨fun ⟨z, hz, e⟩ => mD1_inj.mp e ▸ hz, fun h => ⟨y, h, rfl⟩⟩
    have hidx : ∀ (l : List (List Int)) (y : List Int), (l.map mD1).idxOf (mD1 y) = ixf l y := fun l y => ixf_map mD1 (fun a b h => mD1_inj.mp h) y l
    have hul := un_len p
    have hul2 := un_len (p ++ [x])
    have hpl : p.length ≤ 1000 := by simp at hl; omega
    have s1 : sm p.length = true := sm_of (by omega)
    obtain ⟨r1, r2, r3⟩ := mD1_raw x
    have ke : ∀ l : List D, keysOk (dt 2 l) (mD1 x) = true := fun l => by unfold dt; split <;> assumption
    have kk : ∀ l : List D, kindK (dt 2 l) (mD1 x) = 2 := fun l => by unfold dt; split <;> simp [r2]
    have hpm : (p.map fun m => D.int (ixf (un (p ++ [x])) m)) = p.map fun m => .int (ixf (un p) m) := List.map_congr_left fun y hy => by
      unfold ixf
      rw [un_ext p x hy]
    by_cases hx : x ∈ un p
    · have e0 : un (p ++ [x]) = un p := by rw [un_snoc]; unfold putKs; rw [if_pos hx]
      obtain ⟨vs', e1⟩ := ih (p ++ [x]) vs (by rw [e0]; exact hD) (by simpa using hl)
      refine ⟨vs', ?_⟩
      rw [show p ++ x :: q = p ++ [x] ++ q by simp, ← e1, e0]
      have hin := (hmem x).mpr hx
      have hg := hD.get (mD1 x)
      unfold numF at hg
      rw [if_pos hin, hidx] at hg
      simp [forG_cons, u_kinds_of_1, ke, hin, hg, s1]
    · have e0 : un (p ++ [x]) = un p ++ [x] := by rw [un_snoc]; unfold putKs; rw [if_neg hx]
      have hin : mD1 x ∉ (un p).map mD1 := fun h => hx ((hmem x).mp h)
      have hD2 := hD.put (mD1 x) (.int ((un p).map mD1).length)
      rw [num_put hin] at hD2
      have hpk : putKs (mD1 x) ((un p).map mD1) = (un p ++ [x]).map mD1 := by unfold putKs; rw [if_neg hin]; simp
      rw [hpk] at hD2
      have e2 : (un p).map mD1 ++ [mD1 x] = (un p ++ [x]).map mD1 := by simp
      rw [e2] at hD2
      obtain ⟨vs', e1⟩ := ih (p ++ [x]) _ (by rw [e0]; exact hD2) (by simpa using hl)
      refine ⟨vs', ?_⟩
      rw [show p ++ x :: q = p ++ [x] ++ q by simp, ← e1]
      have hg := hD2.get (mD1 x)
      have hin2 : mD1 x ∈ (un p ++ [x]).map mD1 := by simp
      unfold numF at hg
      rw [if_pos hin2, hidx] at hg
      have s2 : sm (un p).length = true := sm_of (by omega)
      have hdt : dt 2 ((un (p ++ [x])).map mD1) = 2 := by rw [e0, ← e2, dt_snoc]
      rw [hdt]
      have hpm2 : ((p ++ [x]).map fun m => D.int (ixf (un (p ++ [x])) m)) = (p.map fun m => D.int (ixf (un p) m)) ++ [.int (ixf (un (p ++ [x])) x)] := by rw [List.map_append, hpm]; rfl
      rw [hpm2]
      rw [e0]
      have hk2 : keysOk 2 (mD1 x) = true := r1
      simp at hg
      rw [List.map_append, List.map_singleton] at hpk
      simp [forG_cons, u_kinds_of_1, ke, kk, hin, hg, s1, s2, hpk, hk2]
end G

set_option maxRecDepth 10000
namespace G
open TT
/-- one turn of kinds_of -/
theorem kinds_turn {n : Nat} {ts : List (List Int)} (T : TabsOk n ts) {K : List Int} {c : Nat} (hK : KOk n c K) (k m : Nat) (S : Sto) (w : W) (hw : IsL S w (K.map .int)) (w2 : W) (f : Nat) (h : ∃ i, w2 = .d (.int i) ∧ i < c) :
    ∃ (J : Sto) (w' : W), (∃ l, w' = .loc l ∧ S.length ≤ l) ∧ IsL (S ++ J) w' ((stepK ts K).map .int) ∧ whlG (cx prog (k + 1)) m (.op true .gt (.cons (.op true .add (.cons (.op true .max1 (.cons (.v 1) .nil)) (.cons (.k (.int 1)) .nil))) (.cons (.v 2) .nil))) [3, 4, 5] l_kinds_of_2 (f + 1) [some (.d (tabsD ts)), some w, some w2, none, none, none] S
      = whlG (cx prog (k + 1)) m (.op true .gt (.cons (.op true .add (.cons (.op true .max1 (.cons (.v 1) .nil)) (.cons (.k (.int 1)) .nil))) (.cons (.v 2) .nil))) [3, 4, 5] l_kinds_of_2 f [some (.d (tabsD ts)), some w', some (.d (.int c)), none, none, none] (S ++ J) := by
  obtain ⟨i, rfl, hi⟩ := h
  obtain ⟨a, as, e, hmx⟩ := hK.max
  have om : ∀ r, opSem .max1 [w] (S ++ r) = .ok (.w (.d (.int (as.foldl max a)))) (S ++ r) := fun r => o_max_lst (by rw [← e]; exact hw r)
  have om0 := om []
  rw [List.append_nil] at om0
  have em := fun r => marks_of_eq T hK.len k (S ++ r) w (hw.app r)
  have l100 := T.most
  obtain ⟨vs', e1⟩ := kinds_loop1 (k + 1) (S.length + 2) S (.d (tabsD ts)) w (.d (.int c)) ((mksL ts K).map mD1) (mksL ts K) [] [] ⟨rfl, fun _ => rfl⟩ (by simp [mksL_len, hK.len]; omega)
  have hgt : i < as.foldl max a + 1 := by omega
  refine ⟨[.dct (dt 2 ((un (mksL ts K)).map mD1)) ((un (mksL ts K)).map mD1) vs', .lst ((stepK ts K).map .int)], .loc (S.length + 1), ⟨_, rfl, by omega⟩, ?_, ?_⟩
  · intro r
    simp
  · rw [whlG_succ]
    have e2 : ((stepK ts K).map D.int) = (mksL ts K).map fun m => D.int (ixf (un (mksL ts K)) m) := by rw [stepK_eq, List.map_map]; rfl
    rw [e2]
    simp [un, dt] at e1
    simp [om0, hgt, hi, u_kinds_of_2, hmx, em, un, dt, e1]
structure Refd (K0 K : List Int) : Prop where
  ref : ∀ i j : Int, 0 ≤ i → i < K.length → 0 ≤ j → j < K.length → gi K i = gi K j → gi K0 i = gi K0 j
theorem kinds_while {n : Nat} {ts : List (List Int)} (T : TabsOk n ts) (K0 : List Int) (k m : Nat) : ∀ (d : Nat) (K : List Int) (c : Nat) (i : Int) (S : Sto) (w : W) (f : Nat), KOk n c K → n < c + d → d + 2 < f → IsL S w (K.map .int) → i < c → Refd K0 K →
    ∃ (J : Sto) (w' : W) (K' : List Int) (c' : Nat), (∃ l, w' = .loc l ∧ S.length ≤ l) ∧ IsL (S ++ J) w' (K'.map .int) ∧ KOk n c' K' ∧ Refd K0 K' ∧ Stable ts K' ∧
      whlG (cx prog (k + 1)) m (.op true .gt (.cons (.op true .add (.cons (.op true .max1 (.cons (.v 1) .nil)) (.cons (.k (.int 1)) .nil))) (.cons (.v 2) .nil))) [3, 4, 5] l_kinds_of_2 f [some (.d (tabsD ts)), some w, some (.d (.int i)), none, none, none] S
      = .ok (.nx, [some (.d (tabsD ts)), some w', some (.d (.int c')), none, none, none]) (S ++ J) := by
  intro d
  induction d with
  | zero => intro K c i S w f hK h1 h2; have := hK.le; omega
  | succ d ih =>
    intro K c i S w f hK h1 h2 hw hi hR
    obtain ⟨f, rfl⟩ : ∃ f', f = f' + 1 := ⟨f - 1, by omega⟩
    obtain ⟨J, w', hloc, hw', e⟩ := kinds_turn T hK k m S w hw (.d (.int i)) f ⟨i, rfl, hi⟩
    have hlen := hK.len
    have hK' := stepK_ok (ts := ts) (K := K) (by have := T.pos; omega)
    rw [hlen] at hK'
    have hR' : Refd K0 (stepK ts K) := ⟨fun x y x0 x1 y0 y1 q => by
      rw [hK'.len] at x1 y1
      exact hR.ref x y x0 (by omega) y0 (by omega) (stepK_ref x0 (by omega) y0 (by omega) q)⟩
    by_cases q : (un (mksL ts K)).length ≤ c
    · have st := stable_step (ts := ts) (K := K) (by rw [hlen]; exact T) (stepK_same hK q)
      have ec : (un (mksL ts K)).length = c := by
        refine Nat.le_antisymm q ?_
        have h3 := sub_len (r := (List.range c).map fun v => ((v : Nat) : Int)) (l := (un (mksL ts K)).map fun m => m.headD 0) (rng_nodup c) (fun x hx => by
          obtain ⟨v, hv, rfl⟩ := List.mem_map.mp hx
          obtain ⟨j, j0, j1, ej⟩ := mem_gi (hK.all v (List.mem_range.mp hv))
          exact List.mem_map.mpr ⟨marks K ts j, (un_mem _ _).mpr (marks_mem j0 j1), by rw [← ej]; rfl⟩)
        simpa using h3
      refine ⟨J, w', stepK ts K, _, hloc, hw', hK', hR', st, ?_⟩
      rw [e]
      obtain ⟨f, rfl⟩ : ∃ f', f = f' + 1 := ⟨f - 1, by omega⟩
      obtain ⟨a, as, e2, hmx⟩ := hK'.max
      have om0 : opSem .max1 [w'] (S ++ J) = .ok (.w (.d (.int (as.foldl max a)))) (S ++ J) := o_max_lst (by rw [← e2]; exact hw'.lst0)
      rw [whlG_succ, ec]
      rw [ec] at hmx
      simp [om0, hmx]
    · obtain ⟨J2, w2, K2, c2, ⟨l2, e2l, h2l⟩, h3, h4, h5, h6, e2⟩ := ih (stepK ts K) _ c (S ++ J) w' f hK' (by omega) (by omega) hw' (by omega) hR'
      refine ⟨J ++ J2, w2, K2, c2, ⟨l2, e2l, by rw [List.length_append] at h2l; omega⟩, by rw [← List.append_assoc]; exact h3, h4, h5, h6, ?_⟩
      rw [e, e2, List.append_assoc]
theorem leave_isl {s J : Sto} {w : W} {ds : List D} (h : IsL (s ++ J) w ds) (hn : ∀ l, w = .loc l → s.length ≤ l) (hr : w ≠ .d (.rol ds)) : leave false s.length w (s ++ J) = .ok (.d (.lst ds)) s := by
  have h0 := h.lst0
  cases w with
  | d x => cases x <;> simp_all [lstOf]
  | loc l =>
    have hl := hn l rfl
    rw [leave_loc, if_neg (by omega)]
    simp only [lstOf_loc] at h0
    split at h0
    · rename_i ds' e
      cases h0
      rw [e]
      simp
    · cases h0
theorem kinds_of_eq {n : Nat} {ts : List (List Int)} (T : TabsOk n ts) {K0 : List Int} {c : Nat} (h0 : KOk n c K0) (k : Nat) (s : Sto) :
    ∃ (K : List Int) (c' : Nat), KOk n c' K ∧ Refd K0 K ∧ Stable ts K ∧ call prog (k + 2) F_kinds_of [.d (tabsD ts), .d (.lst (K0.map .int))] s = .ok (.d (.lst (K.map .int))) s := by
  obtain ⟨J, w', K, c', ⟨l, rfl, hl⟩, h1, h2, h3, h4, e⟩ := kinds_while T K0 k s.length 101 K0 c 0 s (.d (.lst (K0.map .int))) 1000000 h0 (by have := T.most; have := h0.pos; omega) (by omega) (isL_d _ _) (by have := h0.pos; omega) ⟨fun i j _ _ _ _ q => q⟩
  refine ⟨K, c', h2, h3, h4, ?_⟩
  have el := leave_isl h1 (fun l' e => by cases e; exact hl) (nofun)
  rw [at_kinds_of]
  simp [runN_eq, b_kinds_of, e, el]
end G

set_option maxRecDepth 10000
namespace TT
theorem IsL.walk {s : Sto} {w : W} {ds : List D} (h : IsL s w ds) : ∃ gg, ∀ r, walkOf (s ++ r) w = some (ds, gg) ∧ still (ds, gg) (s ++ r) = true := by
  cases w with
  | d x =>
    have h0 := h.lst0
    cases x <;> simp [lstOf] at h0
    · subst h0; exact ⟨none, fun r => ⟨rfl, rfl⟩⟩
    · subst h0; exact ⟨none, fun r => ⟨rfl, rfl⟩⟩
  | loc l =>
    refine ⟨some l, fun r => ?_⟩
    have h0 := h r
    simp only [lstOf_loc] at h0
    split at h0
    · rename_i ds' e
      cases h0
      simp [e, still]
    · cases h0
end TT
namespace G
open TT
theorem sum_up_eq (k : Nat) (row : List Int) (n : Nat) (hn : n ≤ 100) (s : Sto) : call prog (k + 1) F_sum_up [.d (.tup (row.map .int)), .d (.int n)] s = .ok (.d (.int (sumUp n row))) s := by
  have hb : bg (n : Int) = true := bg_of (by omega) (by omega)
  have e := forG_map (c := cx prog k) (n := s.length) (tg := .nm 3) (kill := [3]) (body := l_sum_up_1) (g := (row.map D.int, none)) D.int
    (fun p => [some (.d (.tup (row.map .int))), some (.d (.int n)), some (.d (.int (sumUp n p))), none]) (fun _ => s) row (fun p x q w _ => by
      simp [forG_cons, u_sum_up_1, hb, sumUp])
  rw [at_sum_up]
  simp [sumUp] at e
  simp [runN_eq, b_sum_up, e, sumUp]
theorem spots_eq (k : Nat) (s : Sto) (N : List Int) (w : W) (hw : IsL s w (N.map .int)) (hN : N.length ≤ 100) (c : Nat) (hc : c ≤ 2) (n : Nat) (hn : n ≤ 100) :
    call prog (k + 2) F_spots_of [.d (.int c), .d (.int n), w] s = .ok (.d (.lst (((chs N c).map (sumUp n)).map .int))) s := by
  obtain ⟨gg, hg⟩ := hw.walk
  have ec := choices_eq k s (N.map .int) w gg hg c hc (by simpa using hN)
  rw [chs_map, List.map_map] at ec
  have hlen : (chs N c).length ≤ 10000 := by
    rw [chs_len]
    have : c = 0 ∨ c = 1 ∨ c = 2 := by omega
    rcases this with rfl | rfl | rfl
    · simp
    · simp; omega
    · have := Nat.mul_le_mul hN hN
      rw [Nat.pow_two]; exact this
  have e3 := lcG_map1 (c := cx prog (k + 1)) (n := s.length) (tg := .nm 3) (g := ((chs N c).map fun r => D.tup (r.map .int), none)) (ifs := .nil) (elt := .call F_sum_up (.cons (.v 3) (.cons (.v 1) .nil))) (e := [some (.d (.int c)), some (.d (.int n)), some w, none]) (s := s) (fun r : List Int => D.tup (r.map .int)) (fun r => .int (sumUp n r)) (chs N c) hlen (fun row hrow acc r ha => by
      simp [lcG_cons, lcA, sum_up_eq k row n hn, ha])
  rw [at_spots_of]
  simp [Function.comp_def] at ec e3
  simp [runN_eq, b_spots_of, ec, e3, finC, Function.comp_def]
/-- the keys of have -/
def hvK (K N : List Int) : List D := N.foldl (fun u m => putKs (D.int (gi K m)) u) []
theorem hvK_snoc (K p : List Int) (x : Int) : hvK K (p ++ [x]) = putKs (D.int (gi K x)) (hvK K p) := by simp [hvK]
theorem hvK_mem (K : List Int) (y : D) : ∀ p : List Int, y ∈ hvK K p ↔ y ∈ p.map fun m => D.int (gi K m) := by
  suffices ∀ q p : List Int, p = q.reverse → (y ∈ hvK K p ↔ y ∈ p.map fun m => D.int (gi K m)) from fun p => this p.reverse p (by simp)
  intro q
  induction q with
  | nil => intro p e; subst e; simp [hvK]
  | cons x q ih =>
    intro p e
    subst e
    rw [List.reverse_cons, hvK_snoc, List.map_append, List.mem_append]
    have := ih q.reverse rfl
    unfold putKs
    split
    · rename_i h
      rw [this]
      constructor
      · exact .inl
      · rintro (h' | h')
        · exact h'
        · simp at h'; subst h'; exact (ih q.reverse rfl).mp h
    · rw [List.mem_append, this]
      simp
theorem hvK_len (K : List Int) : ∀ p : List Int, (hvK K p).length ≤ p.length := by
  suffices ∀ q p : List Int, p = q.reverse → (hvK K p).length ≤ p.length from fun p => this p.reverse p (by simp)
  intro q
  induction q with
  | nil => intro p e; subst e; simp [hvK]
  | cons x q ih =>
    intro p e
    subst e
    rw [List.reverse_cons, hvK_snoc]
    have := putKs_len (D.int (gi K x)) (hvK K q.reverse)
    have := ih q.reverse rfl
    simp at this ⊢
    omega
theorem next_loop1 {n : Nat} {K : List Int} (hK : K.length = n) (hn : n ≤ 100) (k m : Nat) (s : Sto) (N : List Int) (hN : N.length ≤ 100) (hr : ∀ x ∈ N, 0 ≤ x ∧ x < (n : Int)) (w0 w1 w : W) (g : Its) (hg : ∀ r, still g (s ++ r) = true) :
    ∃ vs, forG (cx prog k) m (.nm 5) [5] l_next_mood_1 g (N.map .int) [some w0, some w1, some (.d (.lst (K.map .int))), some w, some (.loc s.length), none, none, none] (s ++ [.dct 3 [] []]) = .ok (.nx, [some w0, some w1, some (.d (.lst (K.map .int))), some w, some (.loc s.length), none, none, none]) (s ++ [.dct (dt 0 (hvK K N)) (hvK K N) vs]) := by
  suffices go : ∀ (q p : List Int) (vs : List D), N = p ++ q → ∃ vs', forG (cx prog k) m (.nm 5) [5] l_next_mood_1 g (q.map .int) [some w0, some w1, some (.d (.lst (K.map .int))), some w, some (.loc s.length), none, none, none] (s ++ [.dct (dt 0 (hvK K p)) (hvK K p) vs]) = .ok (.nx, [some w0, some w1, some (.d (.lst (K.map .int))), some w, some (.loc s.length), none, none, none]) (s ++ [.dct (dt 0 (hvK K N)) (hvK K N) vs']) from go N [] [] rfl
  intro q
  induction q with
  | nil => intro p vs e; rw [List.append_nil] at e; subst e; exact ⟨vs, by simp [hg]⟩
  | cons x q ih =>
    intro p vs e
    obtain ⟨vs', e1⟩ := ih (p ++ [x]) (putVs (D.int (gi K x)) (.bl true) (hvK K p) vs) (by rw [e]; simp)
    refine ⟨vs', ?_⟩
    rw [← e1, hvK_snoc, dt_put]
    have hx := hr x (by rw [e]; simp)
    have a1 : atI K x = some (gi K x) := atI_ok hx.1 (by omega)
    have hl := hvK_len K p
    have hpl : p.length ≤ 100 := by rw [e] at hN; simp at hN; omega
    have hs : sm (hvK K p).length = true := sm_of (by omega)
    have ke : keysOk (dt 0 (hvK K p)) (.int (gi K x)) = true := by unfold dt; split <;> rfl
    have kk : kindK (dt 0 (hvK K p)) (.int (gi K x)) = 0 := by unfold dt; split <;> rfl
    simp [forG_cons, u_next_mood_1, a1, hs, ke, kk, hg]
theorem next_loop2 {n : Nat} {K : List Int} (hK : K.length = n) (k m : Nat) (s : Sto) (ts : List (List Int)) (hv : List D) (vs : List D) (w0 w : W) (j : Int) (j0 : 0 ≤ j) (j1 : j < ts.length) (hr : ∀ x ∈ gi ts j, 0 ≤ x ∧ x < (n : Int)) (g : List D) : ∀ spots : List Int, (∀ x ∈ spots, 0 ≤ x ∧ x < (gi ts j).length) →
    forG (cx prog k) m (.nm 7) [7] l_next_mood_2 (g, none) (spots.map .int) [some w0, some (.d (tabsD ts)), some (.d (.lst (K.map .int))), some w, some (.loc s.length), none, some (.d (.int j)), none] (s ++ [.dct (dt 0 hv) hv vs]) =
      match (spots.map (gi (gi ts j))).find? (fun q => !decide (D.int (gi K q) ∈ hv)) with
      | some q => .ok (.ret (.d (.int q)), [some w0, some (.d (tabsD ts)), some (.d (.lst (K.map .int))), some w, some (.loc s.length), none, some (.d (.int j)), none]) (s ++ [.dct (dt 0 hv) hv vs])
      | none => .ok (.nx, [some w0, some (.d (tabsD ts)), some (.d (.lst (K.map .int))), some w, some (.loc s.length), none, some (.d (.int j)), none]) (s ++ [.dct (dt 0 hv) hv vs]) := by
  intro spots
  induction spots with
  | nil => intro _; simp
  | cons x q ih =>
    intro hx
    have h1 := hx x (by simp)
    have a0 : atI ts j = some (gi ts j) := atI_ok j0 j1
    have a1 : atI (gi ts j) x = some (gi (gi ts j) x) := atI_ok h1.1 h1.2
    have h2 := hr _ (gi_mem h1.1 h1.2)
    have a2 : atI K (gi (gi ts j) x) = some (gi K (gi (gi ts j) x)) := atI_ok h2.1 (by omega)
    have ke : keysOk (dt 0 hv) (.int (gi K (gi (gi ts j) x))) = true := by unfold dt; split <;> rfl
    have e := ih fun y hy => hx y (by simp [hy])
    simp only [tabsD] at e ⊢
    by_cases hm : D.int (gi K (gi (gi ts j) x)) ∈ hv
    · rw [List.map_cons, List.map_cons, List.find?_cons]
      simp only [hm, decide_true, Bool.not_true]
      rw [← e]
      simp [forG_cons, u_next_mood_2, a0, a1, a2, ke, hm]
    · rw [List.map_cons, List.map_cons, List.find?_cons]
      simp only [hm, decide_false, Bool.not_false]
      simp [forG_cons, u_next_mood_2, a0, a1, a2, ke, hm]
/-- whither the signs lead from some moods, in order -/
def cands (ks : List Int) (ts : List (List Int)) (n : Nat) (N : List Int) (sg : Int) : List Int := ((chs N (gi ks sg).toNat).map (sumUp n)).map (gi (gi ts sg))
def nextM (ks : List Int) (ts : List (List Int)) (n : Nat) (K N : List Int) : Option Int := (((List.range ks.length).map fun (sg : Nat) => cands ks ts n N sg).flatten).find? (fun q => !decide (gi K q ∈ N.map (gi K)))
/-- tables as long as they must be -/
structure TabsAt (ks : List Int) (n : Nat) (ts : List (List Int)) : Prop where
  ok : TabsOk n ts
  len : ts.length = ks.length
  at_ : ∀ sg : Int, 0 ≤ sg → sg < ks.length → (gi ts sg).length = n ^ (gi ks sg).toNat
theorem next_loop3 {b : Bk} (hb : b.Ok) {n : Nat} {ts : List (List Int)} (TA : TabsAt b.ks n ts) {K : List Int} (hK : K.length = n) (k m : Nat) (s : Sto) (N : List Int) (hN : N.length ≤ 100) (hr : ∀ x ∈ N, 0 ≤ x ∧ x < (n : Int)) (w : W) (hw : IsL s w (N.map .int)) (vs : List D) (g : List D) : ∀ (d : Nat) (j : Nat), j + d = b.ks.length →
    ∃ e', forG (cx prog (k + 2)) m (.nm 6) [6, 7] l_next_mood_3 (g, none) (rngD j b.ks.length) [some (.d (oBook b)), some (.d (tabsD ts)), some (.d (.lst (K.map .int))), some w, some (.loc s.length), none, none, none] (s ++ [.dct (dt 0 (hvK K N)) (hvK K N) vs]) =
      match (((List.range' j d).map fun (sg : Nat) => cands b.ks ts n N sg).flatten).find? (fun q => !decide (gi K q ∈ N.map (gi K))) with
      | some q => .ok (.ret (.d (.int q)), e') (s ++ [.dct (dt 0 (hvK K N)) (hvK K N) vs])
      | none => .ok (.nx, e') (s ++ [.dct (dt 0 (hvK K N)) (hvK K N) vs]) := by
  intro d
  induction d with
  | zero => intro j e; exact ⟨_, by rw [rngD_nil (by omega)]; simp; rfl⟩
  | succ d ih =>
    intro j e
    obtain ⟨e', ee⟩ := ih (j + 1) (by omega)
    have j1 : (j : Int) < b.ks.length := by omega
    have bk := Book_kids (k + 1) b j (by omega) j1
    have hgk := hb.two _ (gi_mem (by omega : (0 : Int) ≤ j) j1)
    obtain ⟨c, hc⟩ : ∃ c : Nat, gi b.ks j = c ∧ c ≤ 2 := ⟨(gi b.ks j).toNat, by omega, by omega⟩
    rw [hc.1] at bk
    have l100 := TA.ok.most
    have es := spots_eq k (s ++ [M.dct (dt 0 (hvK K N)) (hvK K N) vs]) N w (hw.app _) hN c hc.2 n l100
    have htm : gi ts j ∈ ts := gi_mem (by omega) (by rw [TA.len]; exact j1)
    have e2 := next_loop2 hK (k + 2) (s.length + 1) s ts (hvK K N) vs (.d (oBook b)) w j (by omega) (by rw [TA.len]; exact j1) (TA.ok.rng _ htm) (((chs N c).map (sumUp n)).map .int) ((chs N c).map (sumUp n)) (fun x hx => by
      obtain ⟨row, hrow, rfl⟩ := List.mem_map.mp hx
      obtain ⟨r1, r2⟩ := chs_mem.mp hrow
      have := sum_range n r1 (fun y hy => hr y (r2 y hy))
      rw [TA.at_ j (by omega) j1, hc.1]
      exact this)
    have hpe : (fun q => !decide (D.int (gi K q) ∈ hvK K N)) = (fun q => !decide (gi K q ∈ N.map (gi K))) := by
      funext q
      congr 1
      rw [decide_eq_decide, hvK_mem]
      simp
    rw [hpe] at e2
    have hca : ((chs N c).map (sumUp n)).map (gi (gi ts j)) = cands b.ks ts n N j := by
      unfold cands
      rw [hc.1]; rfl
    rw [hca] at e2
    rw [rngD_cons (by omega), List.range'_succ, List.map_cons, List.flatten_cons, List.find?_append]
    have el : opSem .len [.d (.lst (K.map D.int))] (s ++ [M.dct (dt 0 (hvK K N)) (hvK K N) vs]) = .ok (.w (.d (.int n))) (s ++ [M.dct (dt 0 (hvK K N)) (hvK K N) vs]) := by rw [o_len_l]; simp [hK]
    cases hf : (cands b.ks ts n N j).find? (fun q => !decide (gi K q ∈ N.map (gi K))) with
    | some q =>
      rw [hf] at e2
      refine ⟨[some (.d (oBook b)), some (.d (tabsD ts)), some (.d (.lst (K.map .int))), some w, some (.loc s.length), none, none, none], ?_⟩
      simp at e2
      simp [forG_cons, u_next_mood_3, bk, hK, es, e2]
    | none =>
      rw [hf] at e2
      refine ⟨e', ?_⟩
      rw [Option.none_or, ← ee]
      simp at e2
      simp [forG_cons, u_next_mood_3, bk, hK, es, e2]
/-- a number or None -/
def oI : Option Int → D
  | some q => .int q
  | none => .non
@[simp] theorem oI_some (q : Int) : oI (some q) = .int q := rfl
@[simp] theorem oI_none : oI none = .non := rfl
theorem next_mood_eq {b : Bk} (hb : b.Ok) {n : Nat} {ts : List (List Int)} (TA : TabsAt b.ks n ts) {K : List Int} (hK : K.length = n) (k : Nat) (s : Sto) (N : List Int) (hN : N.length ≤ 100) (hr : ∀ x ∈ N, 0 ≤ x ∧ x < (n : Int)) (w : W) (hw : IsL s w (N.map .int)) :
    call prog (k + 3) F_next_mood [.d (oBook b), .d (tabsD ts), .d (.lst (K.map .int)), w] s = .ok (.d (oI (nextM b.ks ts n K N))) s := by
  obtain ⟨gg, hg⟩ := hw.walk
  obtain ⟨vs, e1⟩ := next_loop1 hK TA.ok.most (k + 2) (s.length + 1) s N hN hr (.d (oBook b)) (.d (tabsD ts)) w (N.map .int, gg) (fun r => (hg r).2)
  obtain ⟨e', e2⟩ := next_loop3 hb TA hK k (s.length + 1) s N hN hr w hw vs (rngD 0 b.ks.length) b.ks.length 0 (by omega)
  have hw1 := (hg [.dct 3 [] []]).1
  have six := hb.six
  have o : okQ b.ks.length = true := okQ_of (by omega) (by omega)
  rw [at_next_mood]
  rw [← List.range_eq_range'] at e2
  unfold nextM
  simp only [Int.natCast_zero] at e2
  cases hf : (((List.range b.ks.length).map fun (sg : Nat) => cands b.ks ts n N sg).flatten).find? (fun q => !decide (gi K q ∈ N.map (gi K))) with
  | some q =>
    rw [hf] at e2
    simp [runN_eq, b_next_mood, hw1, e1, o, hb.len, e2]
  | none =>
    rw [hf] at e2
    simp [runN_eq, b_next_mood, hw1, e1, o, hb.len, e2]
end G

set_option maxRecDepth 10000
namespace TT
/-- rising numbers below a bound -/
structure Rising (n : Nat) (l : List Int) : Prop where
  up : l.Pairwise (· < ·)
  rng : ∀ x ∈ l, 0 ≤ x ∧ x < (n : Int)
theorem Rising.len {n : Nat} {l : List Int} (h : Rising n l) : l.length ≤ n := by
  have := sub_len (r := l) (l := (List.range n).map fun v => ((v : Nat) : Int)) (h.up.imp fun h e => by omega) (fun x hx => by
    have := h.rng x hx
    exact List.mem_map.mpr ⟨x.toNat, List.mem_range.mpr (by omega), by omega⟩)
  simpa using this
end TT
namespace G
open TT
theorem is_rising_ok (k : Nat) (n : Nat) (l : List Int) (h : Rising n l) (s : Sto) : call prog (k + 1) F_is_rising [.d (.lst (l.map .int)), .d (.int n)] s = .ok (.d (.bl true)) s := by
  have e := forG_map (c := cx prog k) (n := s.length) (tg := .nm 3) (kill := [3]) (body := l_is_rising_1) (g := (l.map D.int, none)) D.int
    (fun p => [some (.d (.lst (l.map .int))), some (.d (.int n)), some (.d (.int (p.getLast?.getD (-1)))), none]) (fun _ => s) l (fun p x q w hp => by
      have hx := h.rng x (by rw [hp]; simp)
      have hlt : p.getLast?.getD (-1) < x := by
        cases hg : p.getLast? with
        | none => simp; omega
        | some y =>
          have hy : y ∈ p := List.mem_of_getLast? hg
          have := h.up
          rw [hp, List.pairwise_append] at this
          simpa using this.2.2 y hy x (by simp)
      simp [forG_cons, u_is_rising_1, hlt, hx.2])
  rw [at_is_rising]
  simp at e
  simp [runN_eq, b_is_rising, e]
theorem are_tables_ok (k : Nat) (r : Rd) (hr : r.Ok) (s : Sto) : call prog (k + 2) F_are_tables [.d (oBook r.bk), .d (.int r.n), .d (tabsD r.tabs)] s = .ok (.d (.bl true)) s := by
  have l100 := hr.most
  have six := hr.bk.six
  have bn : bg (r.n : Int) = true := bg_of (by omega) (by omega)
  have e := forG_rng (c := cx prog (k + 1)) (n := s.length) (tg := .nm 3) (kill := [3]) (body := l_are_tables_1) (g := (rngD 0 r.bk.ks.length, none))
    (fun _ => [some (.d (oBook r.bk)), some (.d (.int r.n)), some (.d (tabsD r.tabs)), none, none]) (fun _ => s) (i := 0) (m := r.bk.ks.length) (by omega) (fun j w j0 j1 => by
      have bk := Book_kids k r.bk j j0 j1
      obtain ⟨tl, tr⟩ := hr.tab j j0 j1
      have a0 : atI r.tabs j = some (gi r.tabs j) := atI_ok j0 (by rw [hr.len]; exact j1)
      have hgk := hr.bk.two _ (gi_mem j0 j1)
      have hl2 : (gi r.tabs j).length ≤ 10000 := by
        rw [tl]
        have : (gi r.bk.ks j).toNat = 0 ∨ (gi r.bk.ks j).toNat = 1 ∨ (gi r.bk.ks j).toNat = 2 := by omega
        rcases this with e | e | e <;> rw [e]
        · simp
        · simp; omega
        · have := Nat.mul_le_mul l100 l100
          rw [Nat.pow_two]; exact this
      have e2 := lcG_map1 (c := cx prog (k + 1)) (n := s.length) (tg := .nm 4) (g := ((gi r.tabs j).map D.int, none)) (ifs := .nil) (elt := .chain .le .lt (.k (.int 0)) (.v 4) (.v 1)) (e := [some (.d (oBook r.bk)), some (.d (.int r.n)), some (.d (tabsD r.tabs)), some (.d (.int j)), none]) (s := s) D.int (fun _ => .bl true) (gi r.tabs j) hl2 (fun x hx acc w ha => by
        have := tr x hx
        simp [lcG_cons, lcA, this.1, this.2, ha])
      have a3 : atI [D.int 1, D.int r.n, D.int ((r.n : Int) * r.n)] (gi r.bk.ks j) = some (.int (gi r.tabs j).length) := by
        rw [tl]
        have : gi r.bk.ks j = 0 ∨ gi r.bk.ks j = 1 ∨ gi r.bk.ks j = 2 := by omega
        rcases this with e | e | e <;> rw [e]
        · rfl
        · simp
        · show some _ = some _
          simp [Nat.pow_two]
      have hb2 := bls_map (fun _ : Int => true) (gi r.tabs j)
      have hall : ((gi r.tabs j).all fun _ => true) = true := by rw [List.all_eq_true]; intros; rfl
      simp [tabsD] at e2
      simp [forG_cons, u_are_tables_1, tabsD, a0, bk, bn, a3, fair, D.pl, e2, finC, hb2, hall])
  have o : okQ r.bk.ks.length = true := okQ_of (by omega) (by omega)
  have hb := hr.bk.len
  rw [at_are_tables]
  simp [tabsD] at e
  simp [runN_eq, b_are_tables, tabsD, hb, hr.len, fair, D.pl, o, e]
theorem become_eq (k : Nat) (s : Sto) (ob : M) (ks : List Nat) (vs : List D) (ho : ob = .obj C_Reader ks vs) (hk : (ks = [A_own_book] ∧ ∃ v0, vs = [v0]) ∨ (ks = [A_own_book, A_own_moods, A_own_tables, A_own_liked] ∧ ∃ v0 v1 v2 v3, vs = [v0, v1, v2, v3])) (n : Int) (ts : List (List Int)) (hl : ts.length ≤ 6) (w : W) (hw : ∀ ob', IsL (s ++ [ob']) w (ts.map fun t => .lst (t.map .int))) (lk : List Int) :
    call prog (k + 1) F_Reader_become [.loc s.length, .d (.int n), w, .d (.lst (lk.map .int))] (s ++ [ob]) = .ok (.d .non) (s ++ [.obj C_Reader [A_own_book, A_own_moods, A_own_tables, A_own_liked] [vs.headD .non, .int n, tabsD ts, .lst (lk.map .int)]]) := by
  subst ho
  have key : ∀ ob' : M, ∃ gg, walkOf (s ++ [ob']) w = some (ts.map fun t => .lst (t.map .int), gg) ∧ lcG (cx prog k) (.nm 4) .nil (.op true .list (.cons (.v 4) .nil)) [some (.loc s.length), some (.d (.int n)), some w, some (.d (.lst (lk.map .int))), none] (ts.map fun t => .lst (t.map .int), gg) (s.length + 1) (ts.map fun t => .lst (t.map .int)) (s ++ [ob', .lst []]) = .ok () (s ++ [ob', .lst (ts.map fun t => .lst (t.map .int))]) := by
    intro ob'
    obtain ⟨gg, hg⟩ := (hw ob').walk
    refine ⟨gg, by simpa using (hg []).1, ?_⟩
    have e2 := lcG_map1 (c := cx prog k) (n := s.length + 1) (tg := .nm 4) (g := (ts.map fun t => D.lst (t.map .int), gg)) (ifs := .nil) (elt := .op true .list (.cons (.v 4) .nil)) (e := [some (.loc s.length), some (.d (.int n)), some w, some (.d (.lst (lk.map .int))), none]) (s := s ++ [ob']) (fun t : List Int => D.lst (t.map .int)) (fun t => .lst (t.map .int)) ts (by omega) (fun x hx acc r ha => by
      have := (hg [.lst acc]).2
      simp at this
      simp [lcG_cons, lcA, ha, this])
    have := (hg [.lst (ts.map fun t => .lst (t.map .int))]).2
    simp at this
    simpa [this] using e2
  rw [at_Reader_become]
  rcases hk with ⟨rfl, v0, rfl⟩ | ⟨rfl, v0, v1, v2, v3, rfl⟩
  · obtain ⟨gg, h1, h2⟩ := key (.obj C_Reader [A_own_book, A_own_moods] [v0, .int n])
    simp at h1 h2
    simp [runN_eq, b_Reader_become, putKs, putN, h1, h2, finC, tabsD]
  · obtain ⟨gg, h1, h2⟩ := key (.obj C_Reader [A_own_book, A_own_moods, A_own_tables, A_own_liked] [v0, .int n, v2, v3])
    simp at h1 h2
    simp [runN_eq, b_Reader_become, putKs, putN, h1, h2, finC, tabsD]
theorem Reader_init (k : Nat) (r : Rd) (hr : r.Ok) (h6 : r.n ≤ 6) (hk : Rising r.n r.lk) (s : Sto) : call prog (k + 3) F_Reader___init__ [.loc s.length, .d (oBook r.bk), .d (.int r.n), .d (tabsD r.tabs), .d (.lst (r.lk.map .int))] (s ++ [.obj C_Reader [] []]) = .ok (.d .non) (s ++ [.obj C_Reader [A_own_book, A_own_moods, A_own_tables, A_own_liked] [oBook r.bk, .int r.n, tabsD r.tabs, .lst (r.lk.map .int)]]) := by
  have e1 := are_tables_ok k r hr
  have e2 := is_rising_ok (k + 1) r.n r.lk hk
  have six := hr.bk.six
  have e3 := become_eq (k + 1) s (.obj C_Reader [A_own_book] [oBook r.bk]) [A_own_book] [oBook r.bk] rfl (.inl ⟨rfl, _, rfl⟩) r.n r.tabs (by rw [hr.len]; omega) (.d (tabsD r.tabs)) (fun ob' => isL_d _ _) r.lk
  have p1 : (1 : Int) ≤ r.n := by have := hr.pos; omega
  have p2 : (r.n : Int) ≤ 6 := by omega
  rw [at_Reader___init__]
  simp at e3
  simp [runN_eq, b_Reader___init__, p1, p2, e1, e2, putKs, putN, e3]
theorem new_Reader (k : Nat) (r : Rd) (hr : r.Ok) (h6 : r.n ≤ 6) (hk : Rising r.n r.lk) (s : Sto) : newG (call prog (k + 3)) F_Reader___init__ C_Reader true [.d (oBook r.bk), .d (.int r.n), .d (tabsD r.tabs), .d (.lst (r.lk.map .int))] s = .ok (.d (oReader r)) s := newG_ok (Reader_init k r hr h6 hk s)
theorem told_reader_eq (k : Nat) (r : Rd) (hb : r.bk.Ok) (hl : r.tabs.length ≤ 6) (s : Sto) (w : W) (hw : IsL s w (r.tabs.map fun t => .lst (t.map .int))) :
    call prog (k + 5) F_told_reader [.d (oBook r.bk), .d (.int r.n), w, .d (.lst (r.lk.map .int))] s = .ok (.d (oReader r)) s := by
  have six := hb.six
  have hr0 : (⟨r.bk, 1, r.bk.ks.map fun _ => [0], []⟩ : Rd).Ok := ⟨hb, by simp, by simp, fun sg h0 h1 => by
    simp only at h1 ⊢
    rw [gi_map _ h0 h1]
    simp, by simp⟩
  have en := newG_mut (Reader_init k _ hr0 (by simp) ⟨by simp, by simp⟩ s)
  have e1 := lcG_map1 (c := cx prog (k + 4)) (n := s.length) (tg := .nm 5) (g := (rngD 0 r.bk.ks.length, none)) (ifs := .nil) (elt := .lst true (.cons (.k (.int 0)) .nil)) (e := [some (.d (oBook r.bk)), some (.d (.int r.n)), some w, some (.d (.lst (r.lk.map .int))), none, none]) (s := s) (fun i : Nat => D.int i) (fun _ => .lst [.int 0]) (List.range r.bk.ks.length) (by simp; omega) (fun x hx acc r ha => by
    simp [lcG_cons, lcA, ha])
  rw [← rngD_nat] at e1
  have hc : ((List.range r.bk.ks.length).map fun _ => D.lst [D.int 0]) = (r.bk.ks.map fun _ => [(0 : Int)]).map fun t => .lst (t.map .int) := by
    rw [List.map_map]
    apply List.ext_getElem <;> simp
  have e3 := become_eq (k + 3) s _ _ _ rfl (.inr ⟨rfl, oBook r.bk, .int 1, tabsD (r.bk.ks.map fun _ => [0]), .lst [], rfl⟩) r.n r.tabs hl w (fun ob' => hw.app _) r.lk
  have o : okQ r.bk.ks.length = true := okQ_of (by omega) (by omega)
  rw [at_told_reader]
  rw [hc] at e1
  simp [tabsD] at e1 en e3
  simp [runN_eq, b_told_reader, o, hb.len, e1, finC, en, e3, leave_loc, oReader, tabsD]
end G

set_option maxRecDepth 10000
namespace G
open TT
/-- numbered so far: each the next one -/
structure Numd (ks : List Int) (ts : List (List Int)) (n : Nat) (K N : List Int) : Prop where
  nd : (N.map (gi K)).Nodup
  rng : ∀ x ∈ N, 0 ≤ x ∧ x < (n : Int)
  run : ∀ i : Nat, i < N.length → nextM ks ts n K (N.take i) = N[i]?
theorem cands_rng {b : Bk} (hb : b.Ok) {n : Nat} {ts : List (List Int)} (TA : TabsAt b.ks n ts) {N : List Int} (hr : ∀ x ∈ N, 0 ≤ x ∧ x < (n : Int)) {sg : Int} (h0 : 0 ≤ sg) (h1 : sg < b.ks.length) : ∀ q ∈ cands b.ks ts n N sg, 0 ≤ q ∧ q < (n : Int) := by
  intro q hq
  unfold cands at hq
  obtain ⟨x, hx, rfl⟩ := List.mem_map.mp hq
  obtain ⟨row, hrow, rfl⟩ := List.mem_map.mp hx
  obtain ⟨r1, r2⟩ := chs_mem.mp hrow
  have := sum_range n r1 (fun y hy => hr y (r2 y hy))
  refine TA.ok.rng _ (gi_mem h0 (by rw [TA.len]; exact h1)) _ (gi_mem this.1 ?_)
  rw [TA.at_ sg h0 h1]
  exact this.2
theorem nextM_some {b : Bk} (hb : b.Ok) {n : Nat} {ts : List (List Int)} (TA : TabsAt b.ks n ts) {K N : List Int} (hr : ∀ x ∈ N, 0 ≤ x ∧ x < (n : Int)) {q : Int} (h : nextM b.ks ts n K N = some q) : (0 ≤ q ∧ q < (n : Int)) ∧ gi K q ∉ N.map (gi K) := by
  unfold nextM at h
  have h1 := List.mem_of_find?_eq_some h
  have h2 := List.find?_some h
  refine ⟨?_, by simpa using h2⟩
  obtain ⟨l, hl, hq⟩ := List.mem_flatten.mp h1
  obtain ⟨sg, hsg, rfl⟩ := List.mem_map.mp hl
  exact cands_rng hb TA hr (by omega) (by have := List.mem_range.mp hsg; omega) q hq
theorem Numd.snoc {b : Bk} (hb : b.Ok) {n : Nat} {ts : List (List Int)} (TA : TabsAt b.ks n ts) {K N : List Int} (h : Numd b.ks ts n K N) {q : Int} (hq : nextM b.ks ts n K N = some q) : Numd b.ks ts n K (N ++ [q]) := by
  obtain ⟨h1, h2⟩ := nextM_some hb TA h.rng hq
  refine ⟨?_, fun x hx => ?_, fun i hi => ?_⟩
  · rw [List.map_append, List.nodup_append]
    exact ⟨h.nd, by simp, fun a ha c hc e => by simp at hc; subst hc; subst e; exact h2 ha⟩
  · rcases List.mem_append.mp hx with hx | hx
    · exact h.rng x hx
    · rw [List.mem_singleton] at hx; rw [hx]; exact h1
  · simp at hi
    by_cases e : i < N.length
    · rw [List.take_append_of_le_length (by omega), h.run i e, List.getElem?_append_left e]
    · have : i = N.length := by omega
      subst this
      rw [List.take_left, hq]
      simp
theorem Numd.len {ks : List Int} {ts : List (List Int)} {n c : Nat} {K N : List Int} (h : Numd ks ts n K N) (hK : KOk n c K) : N.length ≤ n := by
  have := sub_len (r := N.map (gi K)) (l := (List.range c).map fun v => ((v : Nat) : Int)) h.nd (fun x hx => by
    obtain ⟨m, hm, rfl⟩ := List.mem_map.mp hx
    have hr := h.rng m hm
    have := hK.rng _ (gi_mem hr.1 (by rw [hK.len]; exact hr.2))
    exact List.mem_map.mpr ⟨(gi K m).toNat, List.mem_range.mpr (by omega), by omega⟩)
  have := hK.le
  simp at this ⊢
  simp at *
  omega
theorem made_while {b : Bk} (hb : b.Ok) {n c : Nat} {ts : List (List Int)} (TA : TabsAt b.ks n ts) {K : List Int} (hK : KOk n c K) (k m : Nat) (s : Sto) (w1 w2 w4 : W) : ∀ (d : Nat) (N : List Int) (f : Nat), 101 ≤ N.length + d → d < f → Numd b.ks ts n K N →
    ∃ N', Numd b.ks ts n K N' ∧ nextM b.ks ts n K N' = none ∧
    whlG (cx prog (k + 3)) m (.op true .notN (.cons (.v 7) (.cons (.k .non) .nil))) [] l_made_1 f [some (.d (oBook b)), some w1, some w2, some (.d (tabsD ts)), some w4, some (.d (.lst (K.map .int))), some (.loc s.length), some (.d (oI (nextM b.ks ts n K N))), none, none, none, none, none, none, none, none] (s ++ [.lst (N.map .int)]) = .ok (.nx, [some (.d (oBook b)), some w1, some w2, some (.d (tabsD ts)), some w4, some (.d (.lst (K.map .int))), some (.loc s.length), some (.d .non), none, none, none, none, none, none, none, none]) (s ++ [.lst (N'.map .int)]) := by
  intro d
  induction d with
  | zero =>
    intro N f h1 h2 h3
    have := h3.len hK
    have := TA.ok.most
    omega
  | succ d ih =>
    intro N f h1 h2 h3
    obtain ⟨f, rfl⟩ : ∃ f', f = f' + 1 := ⟨f - 1, by omega⟩
    have hl := h3.len hK
    have l100 := TA.ok.most
    cases hn : nextM b.ks ts n K N with
    | none =>
      refine ⟨N, h3, hn, ?_⟩
      rw [whlG_succ]
      simp
    | some q =>
      have h4 := h3.snoc hb TA hn
      obtain ⟨N', g1, g2, e⟩ := ih (N ++ [q]) f (by simp; omega) (by omega) h4
      refine ⟨N', g1, g2, ?_⟩
      rw [whlG_succ, ← e]
      have hl4 := h4.len hK
      have en := next_mood_eq hb TA hK.len k (s ++ [.lst ((N ++ [q]).map .int)]) (N ++ [q]) (by omega) h4.rng (.loc s.length) (isL_at s [] _)
      have hs : sm N.length = true := sm_of (by omega)
      simp at en
      simp [u_made_1, hs, en]
theorem made_loop2 {ks : List Int} {ts : List (List Int)} {n c : Nat} {K N : List Int} (h : Numd ks ts n K N) (hK : KOk n c K) (hn : n ≤ 100) (k m : Nat) (s : Sto) (w0 w1 w2 w3 w4 w6 : W) (g : Its) (hg : ∀ r, still g (s ++ r) = true) : ∀ (q p : List Int) (vs : List D), N = p ++ q → DictIs (p.map fun x => D.int (gi K x)) vs (numF (p.map fun x => D.int (gi K x))) →
    ∃ vs', DictIs (N.map fun x => D.int (gi K x)) vs' (numF (N.map fun x => D.int (gi K x))) ∧
    forG (cx prog k) m (.nm 7) [7] l_made_2 g (q.map .int) [some w0, some w1, some w2, some w3, some w4, some (.d (.lst (K.map .int))), some w6, none, some (.loc s.length), none, none, none, none, none, none, none] (s ++ [.dct (dt 0 (p.map fun x => D.int (gi K x))) (p.map fun x => D.int (gi K x)) vs]) = .ok (.nx, [some w0, some w1, some w2, some w3, some w4, some (.d (.lst (K.map .int))), some w6, none, some (.loc s.length), none, none, none, none, none, none, none]) (s ++ [.dct (dt 0 (N.map fun x => D.int (gi K x))) (N.map fun x => D.int (gi K x)) vs']) := by
  intro q
  induction q with
  | nil =>
    intro p vs e hD
    rw [List.append_nil] at e
    subst e
    exact ⟨vs, hD, by simp [hg]⟩
  | cons x q ih =>
    intro p vs e hD
    have hx := h.rng x (by rw [e]; simp)
    have hni : D.int (gi K x) ∉ p.map fun x => D.int (gi K x) := by
      intro hm
      obtain ⟨y, hy, ey⟩ := List.mem_map.mp hm
      injection ey with ey
      have := h.nd
      rw [e, List.map_append, List.nodup_append] at this
      exact this.2.2 (gi K y) (List.mem_map.mpr ⟨y, hy, rfl⟩) (gi K x) (by simp) ey
    have hD2 := hD.put (D.int (gi K x)) (.int (p.map fun x => D.int (gi K x)).length)
    rw [num_put hni] at hD2
    have hpk : putKs (D.int (gi K x)) (p.map fun x => D.int (gi K x)) = (p ++ [x]).map fun x => D.int (gi K x) := by unfold putKs; rw [if_neg hni]; simp
    have e3 : (p.map fun x => D.int (gi K x)) ++ [D.int (gi K x)] = (p ++ [x]).map fun x => D.int (gi K x) := by simp
    rw [hpk, e3] at hD2
    obtain ⟨vs', h1, h2⟩ := ih (p ++ [x]) _ (by rw [e]; simp) hD2
    refine ⟨vs', h1, ?_⟩
    rw [← h2, ← e3, dt_snoc]
    have a1 : atI K x = some (gi K x) := atI_ok hx.1 (by rw [hK.len]; exact hx.2)
    have hpl : p.length ≤ 100 := by have := h.len hK; rw [e] at this; simp at this; omega
    have hs : sm p.length = true := sm_of (by omega)
    have ke : keysOk (dt 0 (p.map fun x => D.int (gi K x))) (.int (gi K x)) = true := by unfold dt; split <;> rfl
    have kk : kindK (dt 0 (p.map fun x => D.int (gi K x))) (.int (gi K x)) = 0 := by unfold dt; split <;> rfl
    rw [List.map_append, List.map_singleton] at hpk
    simp [forG_cons, u_made_2, a1, hs, ke, kk, hg, hpk]
/-- the made reader's tables -/
def tolds (ks : List Int) (ts : List (List Int)) (n : Nat) (K N : List Int) : List (List Int) := (List.range ks.length).map fun (sg : Nat) => (cands ks ts n N sg).map fun q => (((N.map (gi K)).idxOf (gi K q) : Nat) : Int)
theorem nextM_none {ks : List Int} {ts : List (List Int)} {n : Nat} {K N : List Int} (h : nextM ks ts n K N = none) {sg : Int} (h0 : 0 ≤ sg) (h1 : sg < ks.length) : ∀ q ∈ cands ks ts n N sg, gi K q ∈ N.map (gi K) := by
  intro q hq
  unfold nextM at h
  rw [List.find?_eq_none] at h
  obtain ⟨sn, rfl⟩ := Int.eq_ofNat_of_zero_le h0
  have := h q (List.mem_flatten.mpr ⟨_, List.mem_map.mpr ⟨sn, List.mem_range.mpr (by omega), rfl⟩, hq⟩)
  simpa using this
theorem made_loop3 {b : Bk} (hb : b.Ok) {n c : Nat} {ts : List (List Int)} (TA : TabsAt b.ks n ts) {K N : List Int} (hK : KOk n c K) (h : Numd b.ks ts n K N) (hno : nextM b.ks ts n K N = none) (k m : Nat) (s : Sto) (w1 w4 w6 : W) (raws : List D) (hrw : raws.length = n) (hw6 : IsL s w6 (N.map .int)) (vs : List D) (hD : DictIs (N.map fun x => D.int (gi K x)) vs (numF (N.map fun x => D.int (gi K x)))) (g : List D) :
    forG (cx prog (k + 2)) m (.nm 10) [10, 12] l_made_3 (g, none) (rngD 0 b.ks.length) [some (.d (oBook b)), some w1, some (.d (.lst raws)), some (.d (tabsD ts)), some w4, some (.d (.lst (K.map .int))), some w6, none, some (.loc s.length), some (.loc (s.length + 1)), none, none, none, none, none, none] (s ++ [.dct (dt 0 (N.map fun x => D.int (gi K x))) (N.map fun x => D.int (gi K x)) vs, .lst []]) = .ok (.nx, [some (.d (oBook b)), some w1, some (.d (.lst raws)), some (.d (tabsD ts)), some w4, some (.d (.lst (K.map .int))), some w6, none, some (.loc s.length), some (.loc (s.length + 1)), none, none, none, none, none, none]) (s ++ [.dct (dt 0 (N.map fun x => D.int (gi K x))) (N.map fun x => D.int (gi K x)) vs, .lst ((tolds b.ks ts n K N).map fun t => .lst (t.map .int))]) := by
  have l100 := TA.ok.most
  have hl := h.len hK
  have six := hb.six
  have e := forG_rng (c := cx prog (k + 2)) (n := m) (tg := .nm 10) (kill := [10, 12]) (body := l_made_3) (g := (g, none))
    (fun _ => [some (.d (oBook b)), some w1, some (.d (.lst raws)), some (.d (tabsD ts)), some w4, some (.d (.lst (K.map .int))), some w6, none, some (.loc s.length), some (.loc (s.length + 1)), none, none, none, none, none, none]) (fun j => s ++ [.dct (dt 0 (N.map fun x => D.int (gi K x))) (N.map fun x => D.int (gi K x)) vs, .lst ((List.range j.toNat).map fun (sg : Nat) => .lst (((cands b.ks ts n N sg).map fun q => (((N.map (gi K)).idxOf (gi K q) : Nat) : Int)).map .int))]) (i := 0) (m := b.ks.length) (by omega) (fun j w j0 j1 => by
      obtain ⟨jn, rfl⟩ := Int.eq_ofNat_of_zero_le j0
      have bk := Book_kids (k + 1) b jn j0 j1
      have hgk := hb.two _ (gi_mem j0 j1)
      obtain ⟨cc, hc⟩ : ∃ c : Nat, gi b.ks jn = c ∧ c ≤ 2 := ⟨(gi b.ks jn).toNat, by omega, by omega⟩
      rw [hc.1] at bk
      have es := fun r => spots_eq k (s ++ r) N w6 (hw6.app r) (by omega) cc hc.2 n l100
      have a0 : atI ts jn = some (gi ts jn) := atI_ok j0 (by rw [TA.len]; exact j1)
      have htm : gi ts jn ∈ ts := gi_mem j0 (by rw [TA.len]; exact j1)
      have hlen : (chs N cc).length ≤ 10000 := by
        have hN : N.length ≤ 100 := by omega
        rw [chs_len]
        have : cc = 0 ∨ cc = 1 ∨ cc = 2 := by omega
        rcases this with rfl | rfl | rfl
        · simp
        · simp; omega
        · have := Nat.mul_le_mul hN hN
          rw [Nat.pow_two]; exact this
      have hcn : cands b.ks ts n N jn = ((chs N cc).map (sumUp n)).map (gi (gi ts jn)) := by unfold cands; rw [hc.1]; rfl
      have hin := nextM_none hno j0 j1
      have hcr := cands_rng hb TA h.rng j0 j1
      rw [hcn] at hin hcr
      have e3 := fun st0 => lcG_map1 (c := cx prog (k + 2)) (n := s.length + 2) (tg := .nm 14) (g := (((chs N cc).map (sumUp n)).map D.int, none)) (ifs := .nil) (elt := .op true .dget (.cons (.v 8) (.cons (.op true .ix (.cons (.v 5) (.cons (.op true .ix (.cons (.op true .ix (.cons (.v 3) (.cons (.v 10) .nil))) (.cons (.v 14) .nil))) .nil))) .nil))) (e := [some (.d (oBook b)), some w1, some (.d (.lst raws)), some (.d (tabsD ts)), some w4, some (.d (.lst (K.map .int))), some w6, none, some (.loc s.length), some (.loc (s.length + 1)), some (.d (.int jn)), none, some (.d (.lst (((chs N cc).map (sumUp n)).map .int))), none, none, none]) (s := s ++ [M.dct (dt 0 (N.map fun x => D.int (gi K x))) (N.map fun x => D.int (gi K x)) vs, st0]) D.int (fun x => .int (((N.map (gi K)).idxOf (gi K (gi (gi ts jn) x)) : Nat) : Int)) ((chs N cc).map (sumUp n)) (by simpa using hlen) (fun x hx acc r ha => by
          obtain ⟨row, hrow, rfl⟩ := List.mem_map.mp hx
          obtain ⟨r1, r2⟩ := chs_mem.mp hrow
          have hsr := sum_range n r1 (fun y hy => h.rng y (r2 y hy))
          have hlt : sumUp n row < (gi ts jn).length := by rw [TA.at_ jn j0 j1, hc.1]; exact hsr.2
          have a1 : atI (gi ts jn) (sumUp n row) = some (gi (gi ts jn) (sumUp n row)) := atI_ok hsr.1 hlt
          have hq := hcr _ (List.mem_map.mpr ⟨_, hx, rfl⟩)
          have a2 : atI K (gi (gi ts jn) (sumUp n row)) = some (gi K (gi (gi ts jn) (sumUp n row))) := atI_ok hq.1 (by rw [hK.len]; exact hq.2)
          have hmem := hin _ (List.mem_map.mpr ⟨_, hx, rfl⟩)
          have hg := hD.get (D.int (gi K (gi (gi ts jn) (sumUp n row))))
          unfold numF at hg
          have hmem2 : D.int (gi K (gi (gi ts jn) (sumUp n row))) ∈ N.map fun x => D.int (gi K x) := by
            obtain ⟨y, hy, ey⟩ := List.mem_map.mp hmem
            exact List.mem_map.mpr ⟨y, hy, by rw [ey]⟩
          rw [if_pos hmem2] at hg
          have hix : (N.map fun x => D.int (gi K x)).idxOf (D.int (gi K (gi (gi ts jn) (sumUp n row)))) = (N.map (gi K)).idxOf (gi K (gi (gi ts jn) (sumUp n row))) := by
            have := ixf_map D.int (fun a b h => by injection h) (gi K (gi (gi ts jn) (sumUp n row))) (N.map (gi K))
            rw [List.map_map] at this
            exact this
          rw [hix] at hg
          have ke : keysOk (dt 0 (N.map fun x => D.int (gi K x))) (.int (gi K (gi (gi ts jn) (sumUp n row)))) = true := by unfold dt; split <;> rfl
          simp [tabsD, lcG_cons, lcA, a0, a1, a2, ke, hg, ha])
      have hs : sm jn = true := sm_of (by omega)
      have et : ((cands b.ks ts n N (jn : Int)).map fun q => (((N.map (gi K)).idxOf (gi K q) : Nat) : Int)).map D.int = ((chs N cc).map (sumUp n)).map fun x => .int (((N.map (gi K)).idxOf (gi K (gi (gi ts jn) x)) : Nat) : Int) := by
        rw [hcn, List.map_map, List.map_map]
        rfl
      rw [show ((jn : Int) + 1).toNat = jn + 1 by omega, List.range_succ]
      simp only [Int.toNat_natCast]
      rw [List.map_append, List.map_singleton, et]
      have e4 := e3 (.lst ((List.range jn).map fun (sg : Nat) => .lst (((cands b.ks ts n N sg).map fun q => (((N.map (gi K)).idxOf (gi K q) : Nat) : Int)).map .int)))
      simp [tabsD] at e4 es
      simp [forG_cons, u_made_3, tabsD, bk, hrw, es, e4, finC, hs])
  unfold tolds
  rw [List.map_map]
  simp at e
  simpa [Function.comp_def] using e
end G

set_option maxRecDepth 10000
namespace TT
theorem D_ne_int (x y : Bool) : (!decide ((if x then (1 : Int) else 0) = (if y then 1 else 0))) = (x != y) := by cases x <;> cases y <;> rfl
end TT
namespace G
open TT
/-- what made makes of moods -/
structure MadeBy (b : Bk) (hl : Int → List D → D) (lk : D → Bool) (raws : List D) (K N : List Int) (r : Rd) : Prop where
  bk : r.bk = b
  n : r.n = N.length
  tabs : r.tabs = tolds b.ks ((List.range b.ks.length).map fun (sg : Nat) => tbl b.ks hl raws sg) raws.length K N
  lk : r.lk = ((List.range N.length).map fun (i : Nat) => (i : Int)).filter fun i => lk (gi raws (gi N i))
section
variable {P : D → Prop} {t N0 K0 : Nat} {hd : D} {b : Bk} {hl : Int → List D → D} {lk : D → Bool}
theorem tabsAt_of (R : RawOk P t N0) (hb : b.Ok) {raws : List D} (hG : Good P raws) (hF : Full b.ks hl raws) (hne : 1 ≤ raws.length) : TabsAt b.ks raws.length ((List.range b.ks.length).map fun (sg : Nat) => tbl b.ks hl raws sg) := by
  have at0 : ∀ sg : Int, 0 ≤ sg → sg < b.ks.length → gi ((List.range b.ks.length).map fun (sg : Nat) => tbl b.ks hl raws sg) sg = tbl b.ks hl raws sg := by
    intro sg h0 h1
    obtain ⟨n, rfl⟩ := Int.eq_ofNat_of_zero_le h0
    have hn : n < b.ks.length := by omega
    exact gi_of (by simp [hn])
  refine ⟨⟨by simp; exact hb.six, hne, hG.len R, ?_⟩, by simp, fun sg h0 h1 => ?_⟩
  · intro tb htb x hx
    obtain ⟨sg, hsg, rfl⟩ := List.mem_map.mp htb
    unfold tbl at hx
    obtain ⟨row, hrow, rfl⟩ := List.mem_map.mp hx
    have hm := hF.mem hb.two (by omega : (0 : Int) ≤ sg) (by have := List.mem_range.mp hsg; omega) hrow
    have := List.idxOf_lt_length_of_mem hm
    omega
  · rw [at0 sg h0 h1]
    unfold tbl
    rw [List.length_map, chs_len]
theorem kok0 {raws : List D} (hne : 1 ≤ raws.length) (lk : D → Bool) : ∃ c, KOk raws.length c (raws.map fun x => if (lk x != lk (gi raws 0)) then (1 : Int) else 0) := by
  have h0 : (0 : Int) ∈ raws.map fun x => if (lk x != lk (gi raws 0)) then (1 : Int) else 0 := List.mem_map.mpr ⟨gi raws 0, gi_mem (by omega) (by omega), by simp⟩
  by_cases q : ∃ x ∈ raws, lk x ≠ lk (gi raws 0)
  · obtain ⟨x, hx, hq⟩ := q
    refine ⟨2, by simp, fun y hy => ?_, fun v hv => ?_, by omega⟩
    · obtain ⟨z, _, rfl⟩ := List.mem_map.mp hy
      split <;> omega
    · have : v = 0 ∨ v = 1 := by omega
      rcases this with rfl | rfl
      · exact h0
      · exact List.mem_map.mpr ⟨x, hx, by simp [hq]⟩
  · refine ⟨1, by simp, fun y hy => ?_, fun v hv => ?_, by omega⟩
    · obtain ⟨z, hz, rfl⟩ := List.mem_map.mp hy
      have : lk z = lk (gi raws 0) := by
        by_cases e : lk z = lk (gi raws 0)
        · exact e
        · exact absurd ⟨z, hz, e⟩ q
      simp [this]
    · have : v = 0 := by omega
      subst this
      exact h0
theorem made_eq (R : RawOk P t N0) (hb : b.Ok) (hleaf : ∃ sg : Int, 0 ≤ sg ∧ sg < b.ks.length ∧ gi b.ks sg = 0) (Hd : HandD (K0 + 1) hd b.ks P hl lk) (k : Nat) (s : Sto) :
    ∃ (raws : List D) (c : Nat) (K N : List Int) (r : Rd), Good P raws ∧ Full b.ks hl raws ∧ 1 ≤ raws.length ∧ KOk raws.length c K ∧ Refd (raws.map fun x => if (lk x != lk (gi raws 0)) then (1 : Int) else 0) K ∧ Stable ((List.range b.ks.length).map fun (sg : Nat) => tbl b.ks hl raws sg) K ∧
      Numd b.ks ((List.range b.ks.length).map fun (sg : Nat) => tbl b.ks hl raws sg) raws.length K N ∧ nextM b.ks ((List.range b.ks.length).map fun (sg : Nat) => tbl b.ks hl raws sg) raws.length K N = none ∧ MadeBy b hl lk raws K N r ∧
      call prog (k + K0 + 7) F_made [.d (oBook b), .d hd] s = .ok (.d (oReader r)) s := by
  obtain ⟨raws, hG, hF, e1⟩ := reached_eq R hb Hd (k + 4) s
  have hne : 1 ≤ raws.length := by
    obtain ⟨sg, h0, h1, h2⟩ := hleaf
    exact List.length_pos_of_mem (hF.z sg h0 h1 h2)
  have TA := tabsAt_of R hb hG hF hne
  have e2 := targets_eq R hb Hd raws hG hF (k + 4) s
  generalize hts : ((List.range b.ks.length).map fun (sg : Nat) => tbl b.ks hl raws sg) = ts at *
  obtain ⟨⟨cl, as, vs0, f, gf, ho, hf, hg, hlead, hlk⟩, hcl⟩ := Hd
  have l100 := hG.len R
  have a0 : atI raws 0 = some (gi raws 0) := atI_ok (by omega) (by omega)
  have e3 := lcG_map1 (c := cx prog (k + K0 + 6)) (n := s.length) (tg := .nm 13) (g := (raws, none)) (ifs := .nil) (elt := .op true .int (.cons (.meth (.v 1) M_is_liked (.cons (.v 13) .nil)) .nil)) (e := [some (.d (oBook b)), some (.d hd), some (.d (.lst raws)), some (.d (tabsD ts)), none, none, none, none, none, none, none, none, none, none, none, none]) (s := s) id (fun x => .int (if lk x then 1 else 0)) raws (by omega) (fun x hx acc r ha => by
    have el := fun st => hlk x (hG.all x hx) (k + 5) st
    simp only [show k + 5 + (K0 + 1) = k + K0 + 6 by omega] at el
    simp [lcG_cons, lcA, ho, hg, el, ha])
  rw [List.map_id] at e3
  have e4 := lcG_map1 (c := cx prog (k + K0 + 6)) (n := s.length) (tg := .nm 15) (g := (raws.map fun x => D.int (if lk x then 1 else 0), none)) (ifs := .nil) (elt := .op true .int (.cons (.op true .ne (.cons (.v 15) (.cons (.op true .ix (.cons (.v 4) (.cons (.k (.int 0)) .nil))) .nil))) .nil)) (e := [some (.d (oBook b)), some (.d hd), some (.d (.lst raws)), some (.d (tabsD ts)), some (.d (.lst (raws.map fun x => .int (if lk x then 1 else 0)))), none, none, none, none, none, none, none, none, none, none, none]) (s := s) (fun x => D.int (if lk x then 1 else 0)) (fun x => .int (if (lk x != lk (gi raws 0)) then 1 else 0)) raws (by omega) (fun x hx acc r ha => by
    have := D_ne_int (lk x) (lk (gi raws 0))
    simp [lcG_cons, lcA, a0, fair, D.pl, ha, this])
  obtain ⟨c0, h0⟩ := kok0 hne lk
  obtain ⟨K, c, hK, hR, hS, e5⟩ := kinds_of_eq TA.ok h0 (k + K0 + 4) s
  have e6 := next_mood_eq hb TA hK.len (k + K0 + 3) (s ++ [.lst []]) [] (by simp) (by simp) (.loc s.length) (isL_at s [] [])
  obtain ⟨N, hN, hno, e7⟩ := made_while hb TA hK (k + K0 + 3) (s.length + 1) s (.d hd) (.d (.lst raws)) (.d (.lst (raws.map fun x => .int (if lk x then 1 else 0)))) 101 [] 1000000 (by simp) (by omega) ⟨by simp, by simp, by simp⟩
  have hlN := hN.len hK
  obtain ⟨vs, hD, e8⟩ := made_loop2 hN hK l100 (k + K0 + 6) (s.length + 2) (s ++ [.lst (N.map .int)]) (.d (oBook b)) (.d hd) (.d (.lst raws)) (.d (tabsD ts)) (.d (.lst (raws.map fun x => .int (if lk x then 1 else 0)))) (.loc s.length) (N.map .int, some s.length) (fun r => by simp [still]) N [] [] rfl ⟨rfl, fun _ => rfl⟩
  have hNne : N ≠ [] := by
    intro e
    obtain ⟨sg, z0, z1, z2⟩ := hleaf
    have := nextM_none hno z0 z1 (gi (gi ts sg) 0) (by unfold cands; rw [z2, e]; simp [chs, sumUp])
    rw [e] at this
    simp at this
  have e8a : ∀ (g : Its) (S : Sto), forG (cx prog (k + K0 + 6)) (s.length + 2) (.nm 7) [7] l_made_2 g (N.map .int) [some (.d (oBook b)), some (.d hd), some (.d (.lst raws)), some (.d (tabsD ts)), some (.d (.lst (raws.map fun x => .int (if lk x then 1 else 0)))), some (.d (.lst (K.map .int))), some (.loc s.length), some (.d .non), some (.loc (s.length + 1)), none, none, none, none, none, none, none] S = forG (cx prog (k + K0 + 6)) (s.length + 2) (.nm 7) [7] l_made_2 g (N.map .int) [some (.d (oBook b)), some (.d hd), some (.d (.lst raws)), some (.d (tabsD ts)), some (.d (.lst (raws.map fun x => .int (if lk x then 1 else 0)))), some (.d (.lst (K.map .int))), some (.loc s.length), none, some (.loc (s.length + 1)), none, none, none, none, none, none, none] S := by
    intro g S
    cases hNN : N with
    | nil => exact absurd hNN hNne
    | cons x q => simp [forG_cons]
  have e9 := made_loop3 hb TA hK hN hno (k + K0 + 4) (s.length + 3) (s ++ [.lst (N.map .int)]) (.d hd) (.d (.lst (raws.map fun x => .int (if lk x then 1 else 0)))) (.loc s.length) raws rfl (isL_at s [] _) vs hD (rngD 0 b.ks.length)
  have lkrng : ∀ i : Nat, i < N.length → atI N i = some (gi N i) ∧ atI raws (gi N i) = some (gi raws (gi N i)) := fun i hi => by
    have := hN.rng _ (gi_mem (by omega : (0 : Int) ≤ i) (by omega : (i : Int) < N.length))
    exact ⟨atI_ok (by omega) (by omega), atI_ok this.1 this.2⟩
  have e10 := fun st1 st2 => lcG_filt (c := cx prog (k + K0 + 6)) (n := s.length + 3) (tg := .nm 14) (g := (rngD 0 N.length, none)) (ifs := .cons (.op true .eq (.cons (.op true .ix (.cons (.v 4) (.cons (.op true .ix (.cons (.v 6) (.cons (.v 14) .nil))) .nil))) (.cons (.k (.int 1)) .nil))) .nil) (elt := .v 14) (e := [some (.d (oBook b)), some (.d hd), some (.d (.lst raws)), some (.d (tabsD ts)), some (.d (.lst (raws.map fun x => .int (if lk x then 1 else 0)))), some (.d (.lst (K.map .int))), some (.loc s.length), none, some (.loc (s.length + 1)), some (.loc (s.length + 2)), none, none, none, none, none, none]) (s := s ++ [M.lst (N.map .int), st1, st2]) (fun i : Nat => D.int i) (fun i => lk (gi raws (gi N i))) (fun i => D.int i) (List.range N.length) (by simp; omega) (fun i hi acc r ha => by
    obtain ⟨a1, a2⟩ := lkrng i (List.mem_range.mp hi)
    by_cases q : lk (gi raws (gi N i)) = true <;> simp [lcG_cons, lcA, a1, a2, fair, D.pl, ha, q])
  refine ⟨raws, c, K, N, ⟨b, N.length, tolds b.ks ts raws.length K N, ((List.range N.length).map fun (i : Nat) => (i : Int)).filter fun i => lk (gi raws (gi N i))⟩, hG, hF, hne, hK, hR, by rw [hts]; exact hS, by rw [hts]; exact hN, by rw [hts]; exact hno, ⟨rfl, rfl, by simp only [hts], rfl⟩, ?_⟩
  have hlkm : (((List.range N.length).map fun (i : Nat) => (i : Int)).filter fun i => lk (gi raws (gi N i))).map D.int = ((List.range N.length).filter fun (i : Nat) => lk (gi raws (gi N (i : Int)))).map fun (i : Nat) => D.int i := by
    rw [List.filter_map, List.map_map]
    rfl
  have e11 := told_reader_eq (k + K0 + 1) ⟨b, N.length, tolds b.ks ts raws.length K N, ((List.range N.length).map fun (i : Nat) => (i : Int)).filter fun i => lk (gi raws (gi N i))⟩ hb (by simp [tolds]; exact hb.six) (s ++ [M.lst (N.map .int), .dct (dt 0 (N.map fun x => D.int (gi K x))) (N.map fun x => D.int (gi K x)) vs, .lst ((tolds b.ks ts raws.length K N).map fun t => .lst (t.map .int))]) (.loc (s.length + 2)) (fun r => by simp)
  simp only at e11
  rw [hlkm] at e11
  rw [← rngD_nat] at e10
  have o : okQ b.ks.length = true := okQ_of (by omega) (by have := hb.six; omega)
  have o2 : okQ N.length = true := okQ_of (by omega) (by omega)
  rw [at_made]
  simp only [show k + 4 + K0 + 2 = k + K0 + 6 by omega] at e1 e2
  have bm : ∀ st, call prog (k + K0 + 6) F_Book_many [.d (oBook b)] st = .ok (.d (.int b.ns.length)) st := fun st => Book_many (k + K0 + 5) b st
  rw [Nat.add_assoc] at bm
  simp -implicitDefEqProofs [Nat.add_assoc, dt, Function.comp_def] at e1 e2 e3 e4 e5 e6 e7 e8 e8a e9 e10 e11
  simp -implicitDefEqProofs [Nat.add_assoc, runN_eq, b_made, e1, e2, e3, finC, e4, e5, e6, e7, e8a, e8, o, bm, hb.len, e9, o2, e10, e11, Function.comp_def]
end
end G

set_option maxRecDepth 10000
namespace G
open TT
section
variable {P : D → Prop} {t N0 K0 : Nat} {hd : D} {b : Bk} {hl : Int → List D → D} {lk : D → Bool}
theorem tbl_at {ks : List Int} {hl : Int → List D → D} {raws : List D} {sg : Int} (h0 : 0 ≤ sg) (h1 : sg < ks.length) : gi ((List.range ks.length).map fun (sg : Nat) => tbl ks hl raws sg) sg = tbl ks hl raws sg := by
  obtain ⟨n, rfl⟩ := Int.eq_ofNat_of_zero_le h0
  have hn : n < ks.length := by omega
  exact gi_of (by simp [hn])
theorem tolds_at {ks : List Int} {ts : List (List Int)} {n : Nat} {K N : List Int} {sg : Int} (h0 : 0 ≤ sg) (h1 : sg < ks.length) : gi (tolds ks ts n K N) sg = (cands ks ts n N sg).map fun q => (((N.map (gi K)).idxOf (gi K q) : Nat) : Int) := by
  obtain ⟨m, rfl⟩ := Int.eq_ofNat_of_zero_le h0
  have hn : m < ks.length := by omega
  exact gi_of (by simp [tolds, hn])
theorem mem_tolds {ks : List Int} {ts : List (List Int)} {n : Nat} {K N : List Int} {x : Int} (hno : nextM ks ts n K N = none) {sg : Int} (h0 : 0 ≤ sg) (h1 : sg < ks.length) (hx : x ∈ gi (tolds ks ts n K N) sg) : 0 ≤ x ∧ x < (N.length : Int) := by
  rw [tolds_at h0 h1] at hx
  obtain ⟨q, hq, rfl⟩ := List.mem_map.mp hx
  have := List.idxOf_lt_length_of_mem (nextM_none hno h0 h1 q hq)
  simp at this ⊢
  omega
theorem gi_idx {x : D} {raws : List D} (h : x ∈ raws) : (0 : Int) ≤ (raws.idxOf x : Nat) ∧ ((raws.idxOf x : Nat) : Int) < raws.length ∧ gi raws ((raws.idxOf x : Nat) : Int) = x := by
  have h1 := List.idxOf_lt_length_of_mem h
  refine ⟨by omega, by omega, gi_of ?_⟩
  rw [List.getElem?_eq_getElem h1, List.getElem_idxOf h1]
/-- the number of a mood's kind -/
def nOf (raws : List D) (K N : List Int) (x : D) : Int := (((N.map (gi K)).idxOf (gi K ((raws.idxOf x : Nat) : Int)) : Nat) : Int)
theorem nOf_at {raws : List D} {K N : List Int} {x : D} (h : gi K ((raws.idxOf x : Nat) : Int) ∈ N.map (gi K)) : (0 ≤ nOf raws K N x ∧ nOf raws K N x < N.length) ∧ gi K (gi N (nOf raws K N x)) = gi K ((raws.idxOf x : Nat) : Int) := by
  have h1 := List.idxOf_lt_length_of_mem h
  have h2 : gi (N.map (gi K)) (nOf raws K N x) = gi K ((raws.idxOf x : Nat) : Int) := by
    unfold nOf
    exact gi_of (by rw [List.getElem?_eq_getElem h1, List.getElem_idxOf h1])
  have h3 : 0 ≤ nOf raws K N x ∧ nOf raws K N x < N.length := by
    unfold nOf
    simp at h1 ⊢
    omega
  rw [gi_map _ h3.1 h3.2] at h2
  exact ⟨h3, h2⟩
theorem fold_mem (hb : b.Ok) {raws : List D} (hF : Full b.ks hl raws) (x : G0) : x.Ok b.ks → foldH hl x ∈ raws := by
  induction x with
  | v e => exact e.elim
  | z s => intro h; exact hF.z s h.1.1 h.1.2 h.2
  | o s a ih => intro h; exact hF.o s h.1.1 h.1.2 h.2.1 _ (ih h.2.2)
  | t s a c iha ihc => intro h; exact hF.t s h.1.1 h.1.2 h.2.1 _ (iha h.2.2.1) _ (ihc h.2.2.2)
theorem made_lead (hb : b.Ok) {raws : List D} {K N : List Int} {c : Nat} (hF : Full b.ks hl raws) (hK : KOk raws.length c K) (hS : Stable ((List.range b.ks.length).map fun (sg : Nat) => tbl b.ks hl raws sg) K)
    (hN : Numd b.ks ((List.range b.ks.length).map fun (sg : Nat) => tbl b.ks hl raws sg) raws.length K N) (hno : nextM b.ks ((List.range b.ks.length).map fun (sg : Nat) => tbl b.ks hl raws sg) raws.length K N = none) {r : Rd} (hM : MadeBy b hl lk raws K N r)
    {sg : Int} (h0 : 0 ≤ sg) (h1 : sg < b.ks.length) {row : List D} (hr : row ∈ chs raws (gi b.ks sg).toNat) (hin : ∀ x ∈ row, gi K ((raws.idxOf x : Nat) : Int) ∈ N.map (gi K)) :
    r.lead sg (row.map (nOf raws K N)) = nOf raws K N (hl sg row) ∧ gi K ((raws.idxOf (hl sg row) : Nat) : Int) ∈ N.map (gi K) := by
  have hg := hb.two _ (gi_mem h0 h1)
  obtain ⟨rl, rm⟩ := chs_mem.mp hr
  have cd := nextM_none hno h0 h1
  have tb := tbl_at (hl := hl) (raws := raws) h0 h1
  have tmem : tbl b.ks hl raws sg ∈ (List.range b.ks.length).map fun (sg : Nat) => tbl b.ks hl raws sg := by
    rw [← tb]; exact gi_mem h0 (by simp; omega)
  unfold Rd.lead
  rw [hM.tabs, tolds_at h0 h1, hM.n]
  -- what stands at a place of the candidates
  have key : ∀ (ms : List Int) (q : Int), ms.length = (gi b.ks sg).toNat → (∀ m ∈ ms, m ∈ N) → True := fun _ _ _ _ => trivial
  have : gi b.ks sg = 0 ∨ gi b.ks sg = 1 ∨ gi b.ks sg = 2 := by omega
  have tlen : (tbl b.ks hl raws sg).length = raws.length ^ (gi b.ks sg).toNat := by unfold tbl; rw [List.length_map, chs_len]
  rcases this with e | e | e
  · rw [e] at rl
    have : row = [] := List.length_eq_zero_iff.mp rl
    subst this
    have cc : cands b.ks ((List.range b.ks.length).map fun (sg : Nat) => tbl b.ks hl raws sg) raws.length N sg = [((raws.idxOf (hl sg []) : Nat) : Int)] := by
      unfold cands
      rw [tb, e]
      unfold tbl
      rw [e]
      simp [chs, sumUp, gi]
    rw [cc] at cd ⊢
    have m := cd _ (List.mem_singleton.mpr rfl)
    exact ⟨by simp [sumUp, gi, nOf], m⟩
  · rw [e] at rl
    match row, rl, rm with
    | [x], _, rm =>
      have hx := rm x (by simp)
      obtain ⟨⟨n0, n1⟩, n2⟩ := nOf_at (hin x (by simp))
      have cc : cands b.ks ((List.range b.ks.length).map fun (sg : Nat) => tbl b.ks hl raws sg) raws.length N sg = N.map (gi (tbl b.ks hl raws sg)) := by
        unfold cands
        rw [tb, e, show (1 : Int).toNat = 1 from rfl, chs1, List.map_map, List.map_map]
        refine List.map_congr_left fun m _ => ?_
        simp [sumUp]
      rw [cc] at cd ⊢
      obtain ⟨i0, i1, i2⟩ := gi_idx hx
      have hnr := hN.rng _ (gi_mem n0 n1)
      have te : gi (tbl b.ks hl raws sg) ((raws.idxOf x : Nat) : Int) = ((raws.idxOf (hl sg [x]) : Nat) : Int) := by
        unfold tbl
        rw [e, show (1 : Int).toNat = 1 from rfl, gi_map _ i0 (by rw [chs_len]; simpa using i1), chs1_at i0 i1, i2]
      have st := hS.one tmem (by rw [tlen, e, hK.len]; simp) hnr.1 (by rw [hK.len]; exact hnr.2) i0 (by rw [hK.len]; exact i1) n2
      rw [te] at st
      have m := cd _ (List.mem_map.mpr ⟨_, gi_mem n0 n1, rfl⟩)
      rw [st] at m
      refine ⟨?_, m⟩
      simp only [List.map_cons, List.map_nil]
      rw [sum1, List.map_map, gi_map _ n0 n1]
      simp only [Function.comp_apply]
      rw [st]
      rfl
  · rw [e] at rl
    match row, rl, rm with
    | [x, y], _, rm =>
      have hx := rm x (by simp)
      have hy := rm y (by simp)
      obtain ⟨⟨n0, n1⟩, n2⟩ := nOf_at (hin x (by simp))
      obtain ⟨⟨m0, m1⟩, m2⟩ := nOf_at (hin y (by simp))
      have cl : cands b.ks ((List.range b.ks.length).map fun (sg : Nat) => tbl b.ks hl raws sg) raws.length N sg = (chs N 2).map fun r => gi (tbl b.ks hl raws sg) (sumUp raws.length r) := by
        unfold cands
        rw [tb, e, show (2 : Int).toNat = 2 from rfl, List.map_map]
        rfl
      have p0 : 0 ≤ nOf raws K N x * N.length + nOf raws K N y := by
        have := Int.mul_nonneg n0 (show (0 : Int) ≤ N.length by omega); omega
      have p1 : nOf raws K N x * N.length + nOf raws K N y < (chs N 2).length := by
        rw [chs_len, Nat.pow_two]
        have b1 : nOf raws K N x * (N.length : Int) ≤ ((N.length : Int) - 1) * N.length := Int.mul_le_mul_of_nonneg_right (by omega) (by omega)
        rw [Int.sub_mul] at b1
        simp; omega
      have cat := chs2_at n0 n1 m0 m1
      obtain ⟨i0, i1, i2⟩ := gi_idx hx
      obtain ⟨j0, j1, j2⟩ := gi_idx hy
      have hnr := hN.rng _ (gi_mem n0 n1)
      have hmr := hN.rng _ (gi_mem m0 m1)
      have te : gi (tbl b.ks hl raws sg) (((raws.idxOf x : Nat) : Int) * raws.length + ((raws.idxOf y : Nat) : Int)) = ((raws.idxOf (hl sg [x, y]) : Nat) : Int) := by
        have q0 : 0 ≤ ((raws.idxOf x : Nat) : Int) * raws.length + ((raws.idxOf y : Nat) : Int) := by
          have := Int.mul_nonneg i0 (show (0 : Int) ≤ raws.length by omega); omega
        have q1 : ((raws.idxOf x : Nat) : Int) * raws.length + ((raws.idxOf y : Nat) : Int) < (chs raws 2).length := by
          rw [chs_len, Nat.pow_two]
          have b1 : ((raws.idxOf x : Nat) : Int) * (raws.length : Int) ≤ ((raws.length : Int) - 1) * raws.length := Int.mul_le_mul_of_nonneg_right (by omega) (by omega)
          rw [Int.sub_mul] at b1
          simp; omega
        unfold tbl
        rw [e, show (2 : Int).toNat = 2 from rfl, gi_map _ q0 q1, chs2_at i0 i1 j0 j1, i2, j2]
      have tl2 : (tbl b.ks hl raws sg).length = K.length * K.length := by rw [tlen, e, hK.len]; exact Nat.pow_two _
      have s1 := (hS.two tmem tl2 hnr.1 (by rw [hK.len]; exact hnr.2) i0 (by rw [hK.len]; exact i1) n2 (o := gi N (nOf raws K N y)) hmr.1 (by rw [hK.len]; exact hmr.2)).1
      have s2 := (hS.two tmem tl2 hmr.1 (by rw [hK.len]; exact hmr.2) j0 (by rw [hK.len]; exact j1) m2 (o := ((raws.idxOf x : Nat) : Int)) i0 (by rw [hK.len]; exact i1)).2
      rw [hK.len] at s1 s2
      have st := s1.trans s2
      rw [te] at st
      rw [cl] at cd ⊢
      have m := cd _ (List.mem_map.mpr ⟨_, gi_mem p0 p1, rfl⟩)
      rw [cat, sum2, st] at m
      refine ⟨?_, m⟩
      simp only [List.map_cons, List.map_nil]
      rw [sum2, List.map_map, gi_map _ p0 p1, cat]
      simp only [Function.comp_apply]
      rw [sum2, st]
      rfl
theorem made_mood (hb : b.Ok) {raws : List D} {K N : List Int} {c : Nat} (hF : Full b.ks hl raws) (hK : KOk raws.length c K) (hS : Stable ((List.range b.ks.length).map fun (sg : Nat) => tbl b.ks hl raws sg) K)
    (hN : Numd b.ks ((List.range b.ks.length).map fun (sg : Nat) => tbl b.ks hl raws sg) raws.length K N) (hno : nextM b.ks ((List.range b.ks.length).map fun (sg : Nat) => tbl b.ks hl raws sg) raws.length K N = none) {r : Rd} (hM : MadeBy b hl lk raws K N r) (x : G0) :
    x.Ok b.ks → r.moodG x = nOf raws K N (foldH hl x) ∧ gi K ((raws.idxOf (foldH hl x) : Nat) : Int) ∈ N.map (gi K) := by
  induction x with
  | v e => exact e.elim
  | z s =>
    intro h
    have := made_lead hb hF hK hS hN hno hM h.1.1 h.1.2 (row := []) (by rw [h.2]; simp [chs]) (by simp)
    exact this
  | o s a ih =>
    intro h
    obtain ⟨i1, i2⟩ := ih h.2.2
    have hm := fold_mem hb hF a h.2.2
    have := made_lead hb hF hK hS hN hno hM h.1.1 h.1.2 (row := [foldH hl a]) (by rw [h.2.1]; exact chs_mem.mpr ⟨rfl, by simpa using hm⟩) (fun z hz => by rw [List.mem_singleton] at hz; subst hz; exact i2)
    simp only [List.map_cons, List.map_nil] at this
    rw [← i1] at this
    exact this
  | t s a c iha ihc =>
    intro h
    obtain ⟨i1, i2⟩ := iha h.2.2.1
    obtain ⟨j1, j2⟩ := ihc h.2.2.2
    have hm := fold_mem hb hF a h.2.2.1
    have hm2 := fold_mem hb hF c h.2.2.2
    have := made_lead hb hF hK hS hN hno hM h.1.1 h.1.2 (row := [foldH hl a, foldH hl c]) (by rw [h.2.1]; exact chs_mem.mpr ⟨rfl, by simpa using ⟨hm, hm2⟩⟩) (fun z hz => by
      rcases List.mem_cons.mp hz with rfl | hz
      · exact i2
      · rw [List.mem_singleton] at hz; subst hz; exact j2)
    simp only [List.map_cons, List.map_nil] at this
    rw [← i1, ← j1] at this
    exact this
theorem made_rok (R : RawOk P t N0) (hb : b.Ok) (hleaf : ∃ sg : Int, 0 ≤ sg ∧ sg < b.ks.length ∧ gi b.ks sg = 0) {raws : List D} {K N : List Int} {c : Nat} (hG : Good P raws) (hF : Full b.ks hl raws) (hK : KOk raws.length c K)
    (hN : Numd b.ks ((List.range b.ks.length).map fun (sg : Nat) => tbl b.ks hl raws sg) raws.length K N) (hno : nextM b.ks ((List.range b.ks.length).map fun (sg : Nat) => tbl b.ks hl raws sg) raws.length K N = none) {r : Rd} (hM : MadeBy b hl lk raws K N r) : r.Ok := by
  have l1 := hN.len hK
  have l2 := hG.len R
  refine ⟨by rw [hM.bk]; exact hb, ?_, by rw [hM.tabs, hM.bk]; simp [tolds], fun sg h0 h1 => ?_, by rw [hM.n]; omega⟩
  · rw [hM.n]
    obtain ⟨sg, z0, z1, z2⟩ := hleaf
    have hm := nextM_none hno z0 z1 (gi (gi ((List.range b.ks.length).map fun (sg : Nat) => tbl b.ks hl raws sg) sg) 0) (by unfold cands; rw [z2]; simp [chs, sumUp])
    cases N with
    | nil => simp at hm
    | cons x N => simp
  · rw [hM.bk] at h1
    refine ⟨?_, fun x hx => ?_⟩
    · rw [hM.tabs, tolds_at h0 h1, List.length_map, hM.n, hM.bk]
      unfold cands
      rw [List.length_map, List.length_map, chs_len]
    · rw [hM.tabs] at hx
      rw [hM.n]
      exact mem_tolds hno h0 h1 hx
theorem madeR_ok (R : RawOk P t N0) (hb : b.Ok) (hleaf : ∃ sg : Int, 0 ≤ sg ∧ sg < b.ks.length ∧ gi b.ks sg = 0) (Hd : HandD (K0 + 1) hd b.ks P hl lk) (k : Nat) (s : Sto) :
    ∃ r : Rd, r.Ok ∧ r.bk = b ∧ (∀ x : G0, x.Ok b.ks → r.likes x = lk (foldH hl x)) ∧ call prog (k + K0 + 7) F_made [.d (oBook b), .d hd] s = .ok (.d (oReader r)) s := by
  obtain ⟨raws, c, K, N, r, hG, hF, hne, hK, hR, hS, hN, hno, hM, e⟩ := made_eq R hb hleaf Hd k s
  refine ⟨r, made_rok R hb hleaf hG hF hK hN hno hM, hM.bk, fun x hx => ?_, e⟩
  obtain ⟨m1, m2⟩ := made_mood hb hF hK hS hN hno hM x hx
  obtain ⟨⟨n0, n1⟩, n2⟩ := nOf_at m2
  have hm := fold_mem hb hF x hx
  obtain ⟨i0, i1, i2⟩ := gi_idx hm
  have hnr := hN.rng _ (gi_mem n0 n1)
  have rf := hR.ref _ _ hnr.1 (by rw [hK.len]; exact hnr.2) i0 (by rw [hK.len]; exact i1) n2
  rw [gi_map _ hnr.1 hnr.2, gi_map _ i0 i1, i2] at rf
  have lkeq : lk (gi raws (gi N (nOf raws K N (foldH hl x)))) = lk (foldH hl x) := by
    revert rf
    cases lk (gi raws (gi N (nOf raws K N (foldH hl x)))) <;> cases lk (foldH hl x) <;> cases lk (gi raws 0) <;> simp
  unfold Rd.likes
  rw [m1, hM.lk]
  rw [← lkeq]
  rw [Bool.eq_iff_iff, decide_eq_true_eq, List.mem_filter]
  constructor
  · intro h; exact h.2
  · intro h
    refine ⟨List.mem_map.mpr ⟨(nOf raws K N (foldH hl x)).toNat, List.mem_range.mpr (by omega), by omega⟩, h⟩
end
end G

set_option maxRecDepth 10000
namespace TT
variable {V U : Type}
/-- the numbers of a tuple -/
def msOf : D → List Int
  | .tup ds => ds.map fun d => match d with | .int i => i | _ => 0
  | _ => []
theorem msOf_tup (ms : List Int) : msOf (.tup (ms.map .int)) = ms := by
  simp only [msOf, List.map_map]
  exact List.map_id'' (fun _ => rfl) ms
def clampF (n : Nat) (x : Int) : Int := if 0 ≤ x ∧ x < n then x else 0
theorem clampF_ok {n : Nat} (h : 1 ≤ n) (x : Int) : 0 ≤ clampF n x ∧ clampF n x < n := by
  unfold clampF; split <;> omega
theorem clampF_id {n : Nat} {x : Int} (h : 0 ≤ x ∧ x < (n : Int)) : clampF n x = x := by unfold clampF; rw [if_pos h]
theorem Rd.mood_sub (r : Rd) (f : U → Int) (σ : V → T U) (m : T V) : r.mood f (m.sub σ) = r.mood (fun h => r.mood f (σ h)) m := by
  induction m with
  | v x => rfl
  | z s => rfl
  | o s a ih => simp only [T.sub, Rd.mood, ih]
  | t s a b iha ihb => simp only [T.sub, Rd.mood, iha, ihb]
theorem Rd.mood_congr (r : Rd) {f g : V → Int} (m : T V) (h : m.All fun x => f x = g x) : r.mood f m = r.mood g m := by
  induction m with
  | v x => exact h
  | z s => rfl
  | o s a ih => simp only [Rd.mood, ih h]
  | t s a b iha ihb => simp only [Rd.mood, iha h.1, ihb h.2]
theorem states_congr {n : Int} {f g : Int → D} (h : ∀ i, 0 ≤ i → i < n → f i = g i) : states n f = states n g := by
  unfold states
  refine List.map_congr_left fun i hi => ?_
  have := List.mem_range.mp hi
  exact h i (by omega) (by omega)
theorem states_ints (n : Int) (f : Int → Int) : states n (fun i => .int (f i)) = ((List.range n.toNat).map fun (i : Nat) => f i).map .int := by
  unfold states
  rw [List.map_map]
  rfl
/-- the moods of what comes of a tree by each state -/
def moodsD (t : Tn) (r : Rd) (x : G0) : D := .tup (states t.n fun st => .int (r.moodG (t.turn x st)))
end TT
namespace G
open TT
/-- a tuple of moods, one for each state -/
def MoodsOf (n m : Nat) (x : D) : Prop := ∃ ms : List Int, x = .tup (ms.map .int) ∧ ms.length = n ∧ ∀ y ∈ ms, 0 ≤ y ∧ y < (m : Int)
theorem moods_raw (n m : Nat) (h : m ^ n ≤ 100) : RawOk (MoodsOf n m) 2 100 := by
  refine ⟨fun x hx => ?_, fun x hx => ?_, fun x hx => ?_, by omega, fun l hn hl => ?_, by omega⟩
  · obtain ⟨ms, rfl, _⟩ := hx; exact (mD1_raw ms).1
  · obtain ⟨ms, rfl, _⟩ := hx; exact (mD1_raw ms).2.1
  · obtain ⟨ms, rfl, _⟩ := hx; exact (mD1_raw ms).2.2
  · have := sub_len (r := l) (l := (chs ((List.range m).map fun v => ((v : Nat) : Int)) n).map fun ms => D.tup (ms.map .int)) hn (fun x hx => by
      obtain ⟨ms, rfl, h1, h2⟩ := hl x hx
      refine List.mem_map.mpr ⟨ms, chs_mem.mpr ⟨h1, fun y hy => ?_⟩, rfl⟩
      have := h2 y hy
      exact List.mem_map.mpr ⟨y.toNat, List.mem_range.mpr (by omega), by omega⟩)
    rw [List.length_map, chs_len] at this
    simp at this
    omega
def oAhead (t : Tn) (r : Rd) : D := .obj C_Ahead [A_own_reader, A_own_through] [oReader r, oThrough t (oReader r)]
@[simp] theorem objOf_oAhead (t : Tn) (r : Rd) (s : Sto) : objOf s (.d (oAhead t r)) = some (C_Ahead, [A_own_reader, A_own_through], [oReader r, oThrough t (oReader r)]) := (rfl)
/-- the moods to which a sign leads -/
def aLv (st : Int) (x : D) : T Int := .v (gi (msOf x) st)
def aEnc (r : Rd) (u : T Int) : D := .int (r.mood (clampF r.n) u)
def aHl (t : Tn) (r : Rd) (sg : Int) : List D → D
  | [] => tEnc t aLv (aEnc r) (.z sg)
  | [x] => tEnc t aLv (aEnc r) (.o sg (.v x))
  | [x, y] => tEnc t aLv (aEnc r) (.t sg (.v x) (.v y))
  | _ => .non
def aLk (r : Rd) (x : D) : Bool := decide (gi (msOf x) 0 ∈ r.lk)
theorem tEnc_v {t : Tn} {r : Rd} {x : D} (h : MoodsOf t.rows.length r.n x) : tEnc t aLv (aEnc r) (.v x) = x := by
  obtain ⟨ms, rfl, h1, h2⟩ := h
  unfold tEnc
  congr 1
  have e : (states t.n fun st => aEnc r (turn t.mr aLv (.v (.tup (ms.map .int))) st)) = states t.n fun st => .int (gi ms st) := by
    refine states_congr fun i i0 i1 => ?_
    have hm : gi ms i ∈ ms := gi_mem i0 (by unfold Tn.n at i1; omega)
    simp only [turn, aLv, aEnc, Rd.mood, msOf_tup]
    rw [clampF_id (h2 _ hm)]
  rw [e, states_ints]
  congr 1
  apply List.ext_getElem
  · simp [Tn.n, h1]
  · intro i a b
    simp
    exact gi_of (by rw [List.getElem?_eq_getElem])
theorem tEnc_moods {t : Tn} {r : Rd} (ht : t.Ok) (hr : r.Ok) (hg : r.bk.ks = t.gl.ks) (x : T D) (hx : x.Ok t.bk.ks) : MoodsOf t.rows.length r.n (tEnc t aLv (aEnc r) x) := by
  unfold tEnc aEnc
  rw [states_ints]
  refine ⟨_, rfl, by simp [Tn.n], fun y hy => ?_⟩
  obtain ⟨i, hi, rfl⟩ := List.mem_map.mp hy
  have := List.mem_range.mp hi
  refine hr.mood (clampF_ok hr.pos) _ ?_
  rw [hg]
  exact turn_ok ht (lv := aLv) (fun _ _ _ _ => trivial) x hx i (by omega) (by omega)
theorem ahead_hand {t : Tn} {r : Rd} (ht : t.Ok) (hr : r.Ok) (hg : r.bk.ks = t.gl.ks) : HandD 6 (oAhead t r) t.bk.ks (MoodsOf t.rows.length r.n) (aHl t r) (aLk r) := by
  have H1 : Hand 1 (oReader r) t.gl.ks (aEnc r) := by rw [← hg]; exact reader_hand r hr (clampF r.n) (clampF_ok hr.pos)
  have H2 := through_hand (K := 0) ht H1 aLv (fun _ _ _ _ => trivial)
  obtain ⟨cl, as, vs, f, ho, hf, hz, hn, ht2⟩ := H2
  have hn1 := ht.pos
  refine ⟨⟨C_Ahead, _, _, F_Ahead_lead, F_Ahead_is_liked, fun s => objOf_oAhead t r s, by simp, by simp, fun sg row h0 h1 hl hP k s => ?_, fun x hx k s => ?_⟩, fun sg row h0 h1 hl hP => ?_⟩
  · rw [show k + 6 = k + 5 + 1 by omega, at_Ahead_lead]
    have lead : call prog (k + 5) f [.d (oThrough t (oReader r)), .d (.int sg), .d (.tup row)] s = .ok (.d (aHl t r sg row)) s := by
      have hgk : (row.length : Int) = 0 ∨ (row.length : Int) = 1 ∨ (row.length : Int) = 2 := by have := ht.bk.two _ (gi_mem h0 h1); omega
      match row, hl, hP, hgk with
      | [], hl, _, _ => exact hz sg ⟨⟨h0, h1⟩, by simpa using hl.symm⟩ (k + 1) s
      | [x], hl, hP, _ =>
        have e := hn sg (.v x) ⟨⟨h0, h1⟩, by simpa using hl.symm, trivial⟩ (k + 1) s
        rw [tEnc_v (hP x (by simp))] at e
        exact e
      | [x, y], hl, hP, _ =>
        have e := ht2 sg (.v x) (.v y) ⟨⟨h0, h1⟩, by simpa using hl.symm, trivial, trivial⟩ (k + 1) s
        rw [tEnc_v (hP x (by simp)), tEnc_v (hP y (by simp))] at e
        exact e
      | _ :: _ :: _ :: _, _, _, hgk => simp at hgk; omega
    have ho2 := ho s
    simp at ho2
    obtain ⟨rfl, rfl, rfl⟩ := ho2
    have hf2 : f = F_Through_lead := by simpa using hf.symm
    subst hf2
    simp [runN_eq, b_Ahead_lead, look_cons, lead]
  · obtain ⟨ms, rfl, l1, l2⟩ := hx
    rw [show k + 6 = k + 5 + 1 by omega, at_Ahead_is_liked]
    have a0 : atI ms 0 = some (gi ms 0) := atI_ok (by omega) (by omega)
    have e := Reader_is_liked (k + 4) r (gi ms 0)
    simp [runN_eq, b_Ahead_is_liked, look_cons, a0, e, aLk, msOf_tup]
  · have hgk : (row.length : Int) = 0 ∨ (row.length : Int) = 1 ∨ (row.length : Int) = 2 := by have := ht.bk.two _ (gi_mem h0 h1); omega
    match row, hl, hgk with
    | [], hl, _ => exact tEnc_moods ht hr hg _ ⟨⟨h0, h1⟩, by simpa using hl.symm⟩
    | [x], hl, _ => exact tEnc_moods ht hr hg _ ⟨⟨h0, h1⟩, by simpa using hl.symm, trivial⟩
    | [x, y], hl, _ => exact tEnc_moods ht hr hg _ ⟨⟨h0, h1⟩, by simpa using hl.symm, trivial, trivial⟩
    | _ :: _ :: _ :: _, _, hgk => simp at hgk; omega
/-- what it comes to at a tree -/
theorem ahead_fold {t : Tn} {r : Rd} (ht : t.Ok) (hr : r.Ok) (hg : r.bk.ks = t.gl.ks) (x : G0) : x.Ok t.bk.ks → foldH (aHl t r) x = moodsD t r x := by
  have ms : ∀ a : G0, msOf (moodsD t r a) = (List.range t.n.toNat).map fun (i : Nat) => r.moodG (t.turn a i) := fun a => by unfold moodsD; rw [states_ints, msOf_tup]
  have key : ∀ (a : G0) (i : Int), a.Ok t.bk.ks → 0 ≤ i → i < t.n → clampF r.n (gi (msOf (moodsD t r a)) i) = r.moodG (t.turn a i) := fun a i ha i0 i1 => by
    obtain ⟨j, rfl⟩ := Int.eq_ofNat_of_zero_le i0
    rw [ms]
    have hj : j < t.n.toNat := by omega
    rw [gi_of (x := r.moodG (t.turn a j)) (by simp [hj])]
    exact clampF_id (hr.moodG _ (by rw [hg]; exact Tn.turn_ok ht ha i0 i1))
  induction x with
  | v e => exact e.elim
  | z s =>
    intro h
    unfold moodsD
    simp only [foldH, aHl, tEnc]
    congr 1
    refine states_congr fun i i0 i1 => ?_
    simp only [aEnc, turn, Tn.turn, Rd.moodG]
    rw [Rd.mood_sub, Rd.mood_sub]
    refine congrArg D.int (Rd.mood_congr r _ ((ht.mr i s i0 i1 h.1.1 h.1.2).all.mono fun y hy => ?_))
    have := h.2
    exfalso
    omega
  | o s a ih =>
    intro h
    simp only [foldH, ih h.2.2]
    unfold moodsD
    simp only [aHl, tEnc]
    congr 1
    refine states_congr fun i i0 i1 => ?_
    simp only [aEnc, turn, Tn.turn, Rd.moodG]
    rw [Rd.mood_sub, Rd.mood_sub]
    congr 1
    refine Rd.mood_congr r _ ((ht.mr i s i0 i1 h.1.1 h.1.2).all.mono fun y hy => ?_)
    exact key a y.1 h.2.2 hy.1.1 hy.1.2
  | t s a c iha ihc =>
    intro h
    simp only [foldH, iha h.2.2.1, ihc h.2.2.2]
    unfold moodsD
    simp only [aHl, tEnc]
    congr 1
    refine states_congr fun i i0 i1 => ?_
    simp only [aEnc, turn, Tn.turn, Rd.moodG]
    rw [Rd.mood_sub, Rd.mood_sub]
    congr 1
    refine Rd.mood_congr r _ ((ht.mr i s i0 i1 h.1.1 h.1.2).all.mono fun y hy => ?_)
    split
    · exact key a y.1 h.2.2.1 hy.1.1 hy.1.2
    · exact key c y.1 h.2.2.2 hy.1.1 hy.1.2
theorem ahead_likes {t : Tn} {r : Rd} (ht : t.Ok) (x : G0) : aLk r (moodsD t r x) = r.likes (t.turn x 0) := by
  have hn : 0 < t.n := by have := ht.pos; unfold Tn.n; omega
  unfold aLk moodsD Rd.likes
  rw [states_ints, msOf_tup]
  have : gi ((List.range t.n.toNat).map fun (i : Nat) => r.moodG (t.turn x i)) 0 = r.moodG (t.turn x 0) := gi_of (i := 0) (by
    have h2 : 0 < t.n.toNat := by omega
    simp [h2])
  rw [this]
theorem Ahead_init (k : Nat) (t : Tn) (r : Rd) (s : Sto) (hg : t.gl = r.bk) : call prog (k + 4) F_Ahead___init__ [.loc s.length, .d (oTurner t), .d (oReader r)] (s ++ [.obj C_Ahead [] []]) = .ok (.d .non) (s ++ [.obj C_Ahead [A_own_reader, A_own_through] [oReader r, oThrough t (oReader r)]]) := by
  have e := must_be_like_eq (k + 1) t.gl r.bk
  rw [hg] at e
  have e2 := fun s => new_Through (k + 1) t (oReader r) s
  rw [at_Ahead___init__]
  simp -implicitDefEqProofs [Nat.add_assoc, ] at e e2
  simp -implicitDefEqProofs [Nat.add_assoc, runN_eq, b_Ahead___init__, e, hg, putKs, putN, e2]
theorem Ahead_init_no (k : Nat) (t : Tn) (r : Rd) (s : Sto) (hg : t.gl ≠ r.bk) : call prog (k + 4) F_Ahead___init__ [.loc s.length, .d (oTurner t), .d (oReader r)] (s ++ [.obj C_Ahead [] []]) = .err X_Unlike (s ++ [.obj C_Ahead [] []]) := by
  have e := must_be_like_eq (k + 1) t.gl r.bk
  rw [at_Ahead___init__]
  simp -implicitDefEqProofs [Nat.add_assoc, ] at e
  simp -implicitDefEqProofs [Nat.add_assoc, runN_eq, b_Ahead___init__, e, hg]
theorem newG_err2 {F : Fun} {f cl x : Nat} {fz : Bool} {ws : List W} {s s' : Sto} (h : F f (.loc s.length :: ws) (s ++ [.obj cl [] []]) = .err x s') : newG F f cl fz ws s = .err x s' := by
  unfold newG
  rw [h]
  rfl
theorem new_Ahead (k : Nat) (t : Tn) (r : Rd) (s : Sto) (hg : t.gl = r.bk) : newG (call prog (k + 4)) F_Ahead___init__ C_Ahead true [.d (oTurner t), .d (oReader r)] s = .ok (.d (oAhead t r)) s := newG_ok (Ahead_init k t r s hg)
theorem new_Ahead_no (k : Nat) (t : Tn) (r : Rd) (s : Sto) (hg : t.gl ≠ r.bk) : newG (call prog (k + 4)) F_Ahead___init__ C_Ahead true [.d (oTurner t), .d (oReader r)] s = .err X_Unlike (s ++ [.obj C_Ahead [] []]) := newG_err2 (Ahead_init_no k t r s hg)
theorem before_no (k : Nat) (t : Tn) (r : Rd) (s : Sto) (hg : t.gl ≠ r.bk) : call prog (k + 6) F_before [.d (oTurner t), .d (oReader r)] s = .err X_Unlike s := by
  have e := fun s => new_Ahead_no k t r s hg
  rw [at_before]
  simp [runN_eq, b_before, e]
theorem before_ok (k : Nat) (s : Sto) {t : Tn} {r : Rd} (ht : t.Ok) (hr : r.Ok) (hg : t.gl = r.bk) (hm : r.n ^ t.rows.length ≤ 100) (hleaf : ∃ sg : Int, 0 ≤ sg ∧ sg < t.bk.ks.length ∧ gi t.bk.ks sg = 0) :
    ∃ r' : Rd, r'.Ok ∧ r'.bk = t.bk ∧ (∀ x : G0, x.Ok t.bk.ks → r'.likes x = r.likes (t.turn x 0)) ∧ call prog (k + 13) F_before [.d (oTurner t), .d (oReader r)] s = .ok (.d (oReader r')) s := by
  have hg2 : r.bk.ks = t.gl.ks := by rw [hg]
  obtain ⟨r', h1, h2, h3, e⟩ := madeR_ok (K0 := 5) (moods_raw _ _ hm) ht.bk hleaf (ahead_hand ht hr hg2) k s
  refine ⟨r', h1, h2, fun x hx => ?_, ?_⟩
  · rw [h3 x hx, ahead_fold ht hr hg2 x hx, ahead_likes ht]
  · have en := fun s => new_Ahead (k + 7) t r s hg
    rw [at_before]
    simp -implicitDefEqProofs [Nat.add_assoc, ] at e en
    simp -implicitDefEqProofs [Nat.add_assoc, runN_eq, b_before, en, e]
end G

set_option maxRecDepth 10000
/-! the law's own defs that draw -/
namespace TT
def bx (n : Int) : M := .lst [.int n]
end TT
namespace G
open TT
open PySem (Str)
theorem cell_eq (k : Nat) (ns : List Int) (i : Nat) (s : Sto) : call prog (k + 1) F__law_cell [.d (.rol (ns.map .int)), .d (.int i)] s = .ok (.d (.int (ns.getD i 0))) s := by
  rw [at__law_cell]
  by_cases h : i < ns.length
  · simp [runN_eq, b__law_cell, h, atI, ixOf]
  · simp [runN_eq, b__law_cell, h, atI, ixOf]
theorem take_eq (k : Nat) (n b : Int) (h1 : 0 < b) (h2 : b < 1073741824) (p s : Sto) : call prog (k + 1) F__law_take [.loc p.length, .d (.int b)] (p ++ bx n :: s) = .ok (.d (.int (n % b))) (p ++ bx (n / b) :: s) := by
  rw [at__law_take]
  simp [runN_eq, b__law_take, bx, atI, ixOf, h1, h2, setAll]
theorem take_ok (k : Nat) (n b : Int) (h1 : 0 < b) (h2 : b < 1073741824) (p s : Sto) : ∃ d n', call prog (k + 1) F__law_take [.loc p.length, .d (.int b)] (p ++ bx n :: s) = .ok (.d (.int d)) (p ++ bx n' :: s) ∧ 0 ≤ d ∧ d < b :=
  ⟨_, _, take_eq k n b h1 h2 p s, Int.emod_nonneg _ (by omega), Int.emod_lt_of_pos _ h1⟩
def mixL : List Int := [48271, 69621, 16807, 39373, 30269, 40014, 40692, 50021, 61687, 71993, 83869, 95561, 30307]
theorem mix_ix (j : Int) : ∃ v : Int, atI (mixL.map D.int) (j % 13) = some (.int v) ∧ -18446744073709551616 < v ∧ v < 18446744073709551616 := by
  have h1 : 0 ≤ j % 13 := Int.emod_nonneg _ (by decide)
  have h2 : j % 13 < 13 := Int.emod_lt_of_pos _ (by decide)
  obtain ⟨m, hm⟩ := Int.eq_ofNat_of_zero_le h1
  rw [hm] at h2 ⊢
  have : m < 13 := by omega
  match m, this with
  | 0, _ | 1, _ | 2, _ | 3, _ | 4, _ | 5, _ | 6, _ | 7, _ | 8, _ | 9, _ | 10, _ | 11, _ | 12, _ => exact ⟨_, rfl, by decide, by decide⟩
theorem bg_mod (i : Int) : bg (i % 1000000007) = true := by
  have h1 : 0 ≤ i % 1000000007 := Int.emod_nonneg _ (by decide)
  have h2 : i % 1000000007 < 1000000007 := Int.emod_lt_of_pos _ (by decide)
  exact bg_of (by omega) (by omega)
theorem mix_ok (k : Nat) (c j : Int) (s : Sto) : ∃ v : Int, call prog (k + 1) F__law_mix [.d (.int c), .d (.int j)] s = .ok (.d (.int v)) s := by
  rw [at__law_mix]
  obtain ⟨v, h1, h2, h3⟩ := mix_ix j
  have b0 : bg v = true := bg_of h2 h3
  simp only [mixL, List.map_cons, List.map_nil] at h1
  simp [runN_eq, b__law_mix, h1, b0, bg_mod]
theorem box_loop (k n : Nat) (s : Sto) (w1 w2 : W) (c lap : Int) (g : List D) : ∀ (m : Nat) (j v : Int), ∃ v' : Int, forG (cx prog (k + 1)) n (.nm 5) [5] l__law_box_1 (g, none) (rngD j (j + m)) [some w1, some w2, some (.d (.int lap)), some (.d (.int c)), some (.d (.int v)), none] s = .ok (.nx, [some w1, some w2, some (.d (.int lap)), some (.d (.int c)), some (.d (.int v')), none]) s := by
  intro m
  induction m with
  | zero => intro j v; exact ⟨v, by simp [rngD_nil]⟩
  | succ m ih =>
    intro j v
    obtain ⟨x, hx⟩ := mix_ok k c (90 * lap + j) s
    obtain ⟨v', h⟩ := ih (j + 1) (v * 142857143 + x)
    refine ⟨v', ?_⟩
    rw [rngD_cons (by omega), ← h]
    rw [show j + 1 + (m : Int) = j + ((m : Int) + 1) by omega]
    simp [forG_cons, u__law_box_1, hx]
theorem box_ok (k : Nat) (ns : List Int) (i : Nat) (lap : Int) (s : Sto) : ∃ n : Int, call prog (k + 2) F__law_box [.d (.rol (ns.map .int)), .d (.int i), .d (.int lap)] s = .ok (.loc s.length) (s ++ [bx n]) := by
  have hc := cell_eq k ns i s
  generalize hv : ns.getD i 0 = c at hc
  rw [at__law_box]
  obtain ⟨v, hl⟩ := box_loop k s.length s (.d (.rol (ns.map .int))) (.d (.int i)) c lap (rngD 0 90) 90 0 0
  by_cases h1 : c % 2 = 0
  · by_cases h2 : lap = 0
    · exact ⟨_, by simp [runN_eq, b__law_box, hc, fair, D.pl, h1, h2, leave_loc, bx]; rfl⟩
    · refine ⟨v, ?_⟩
      simp at hl
      simp [runN_eq, b__law_box, hc, fair, D.pl, h1, h2, leave_loc, bx, hl]
  · refine ⟨v, ?_⟩
    simp at hl
    simp [runN_eq, b__law_box, hc, fair, D.pl, h1, leave_loc, bx, hl]
theorem numbers_eq (k : Nat) (sg : Sg) (hl : sg.length ≤ 10000) (s : Sto) : call prog (k + 1) F__law_numbers [.d sg.d] s = .ok (.d (.lst (sg.ks.map .int))) s := by
  have e := lcG_map1 (c := cx prog k) (n := s.length) (tg := .tp [1, 2]) (g := (sg.map fun x => .tup [.str x.1, .int x.2], none)) (ifs := .nil) (elt := .v 2) (e := [some (.d sg.d), none, none]) (s := s) (fun x => .tup [.str x.1, .int x.2]) (fun x => .int x.2) sg hl (fun x _ acc r h => by simp [lcG_cons, lcA, h])
  rw [at__law_numbers]
  simp [Sg.d] at e
  simp [runN_eq, b__law_numbers, Sg.d, e, finC, Sg.ks, Function.comp_def]
end G

set_option maxRecDepth 10000
namespace TT
theorem gi_nat {α : Type} [Inhabited α] (l : List α) (i : Nat) : gi l (i : Int) = l.getD i default := by
  unfold gi; simp
theorem atI_mem {α : Type} [Inhabited α] {l : List α} {d : Int} (h0 : 0 ≤ d) (h1 : d < l.length) : ∃ x ∈ l, atI l d = some x :=
  ⟨_, gi_mem h0 h1, atI_ok h0 h1⟩
theorem atI_mem' {α : Type} {l : List α} {d : Int} (h0 : 0 ≤ d) (h1 : d < l.length) : ∃ x ∈ l, atI l d = some x := by
  have : d.toNat < l.length := by omega
  refine ⟨l[d.toNat], List.getElem_mem _, ?_⟩
  unfold atI ixOf
  rw [if_pos h0, if_pos h1]
  simp [this]
end TT
namespace G
open TT
theorem some_eq (k n : Nat) (s : Sto) (e : Env) (ks : List Int) (hk : ks.length ≤ 6) (row : List D) (w most : Int) (g : List D) (elt : E) (vk vr vw vm : Nat) (tgn : Nat) (ifs : Es)
    (h : ∀ i : Nat, i < ks.length → ∀ acc r, sm acc.length = true → lcG (cx prog k) (.nm tgn) ifs elt e (g, none) n (.int i :: r) (s ++ [.lst acc]) = lcG (cx prog k) (.nm tgn) ifs elt e (g, none) n r (s ++ [.lst (if decide ((row.length : Int) + w + gi ks i ≤ most) then acc ++ [.int i] else acc)])) :
    lcG (cx prog k) (.nm tgn) ifs elt e (g, none) n (rngD 0 ks.length) (s ++ [.lst []]) = lcG (cx prog k) (.nm tgn) ifs elt e (g, none) n [] (s ++ [.lst (((List.range ks.length).filter fun (i : Nat) => decide ((row.length : Int) + w + gi ks i ≤ most)).map fun (i : Nat) => .int i)]) := by
  rw [rngD_nat]
  exact lcG_filt (fun (i : Nat) => D.int i) (fun (i : Nat) => decide ((row.length : Int) + w + gi ks i ≤ most)) (fun (i : Nat) => D.int i) (List.range ks.length) (by simp; omega) fun i hi acc r ha => h i (by simpa using hi) acc r ha
end G

set_option maxRecDepth 10000
namespace G
open TT
theorem made_loop (k n : Nat) (ks : List Int) (hk : KsOk ks) (most states kd : Int) (hm : most ≤ 5000) (hs0 : 1 ≤ states) (hs1 : states ≤ 1000) (hd0 : 0 ≤ kd) (hd1 : kd ≤ 1000) (p s : Sto) : ∀ (m fuel : Nat) (row : List D) (w : Nat) (bn : Int) (o7 o8 : Option W), m < fuel → (row.length : Int) + w ≤ most → most - row.length ≤ m → PreT hD (MrOk ks states kd) row w →
    ∃ row' bn' o7' o8', whlG (cx prog (k + 1)) n (.op true .gt (.cons (.v 6) (.cons (.k (.int 0)) .nil))) [7] l__law_made_1 fuel [some (.loc p.length), some (.d (.int kd)), some (.d (.lst (ks.map .int))), some (.d (.int states)), some (.d (.int most)), some (.loc (p.length + (s.length + 1))), some (.d (.int w)), o7, o8] (p ++ bx bn :: (s ++ [.lst row])) = .ok (.nx, [some (.loc p.length), some (.d (.int kd)), some (.d (.lst (ks.map .int))), some (.d (.int states)), some (.d (.int most)), some (.loc (p.length + (s.length + 1))), some (.d (.int 0)), o7', o8']) (p ++ bx bn' :: (s ++ [.lst row'])) ∧ (row'.length : Int) ≤ most ∧ PreT hD (MrOk ks states kd) row' 0 := by
  intro m
  induction m with
  | zero =>
    intro fuel row w bn o7 o8 hf h1 h2 h3
    have : w = 0 := by omega
    subst this
    obtain ⟨fuel, rfl⟩ : ∃ f, fuel = f + 1 := ⟨fuel - 1, by omega⟩
    refine ⟨row, bn, o7, o8, ?_, by omega, h3⟩
    simp [whlG_succ]
  | succ m ih =>
    intro fuel row w bn o7 o8 hf h1 h2 h3
    obtain ⟨fuel, rfl⟩ : ∃ f, fuel = f + 1 := ⟨fuel - 1, by omega⟩
    match w with
    | 0 =>
      refine ⟨row, bn, o7, o8, ?_, by omega, h3⟩
      simp [whlG_succ]
    | w + 1 =>
      have e := some_eq (k + 1) (p.length + (s.length + 1 + 1)) (p ++ bx bn :: (s ++ [.lst row])) [some (.loc p.length), some (.d (.int kd)), some (.d (.lst (ks.map .int))), some (.d (.int states)), some (.d (.int most)), some (.loc (p.length + (s.length + 1))), some (.d (.int (w + 1 : Nat))), o7, none] ks hk.most row (w + 1 : Nat) most (rngD 0 ks.length)
        (.v 8) 0 0 0 0 8 (.cons (.op true .le (.cons (.op true .add (.cons (.op true .add (.cons (.op true .len (.cons (.v 5) .nil)) (.cons (.v 6) .nil))) (.cons (.op true .ix (.cons (.v 2) (.cons (.v 8) .nil))) .nil))) (.cons (.v 4) .nil))) .nil) (fun i hi acc r ha => by
          have a1 : atI ks i = some (gi ks i) := atI_ok (by omega) (by omega)
          by_cases q : (row.length : Int) + (w + 1 : Nat) + gi ks i ≤ most
          · simp at q
            simp [lcG_cons, lcA, a1, q, ha]
          · simp at q
            have q' : ¬ ((row.length : Int) + (↑w + 1) + gi ks ↑i ≤ most) := by omega
            simp [lcG_cons, lcA, a1, q'])
      generalize hl : ((List.range ks.length).filter fun (i : Nat) => decide ((row.length : Int) + (w + 1 : Nat) + gi ks i ≤ most)) = l at e
      have hlm : ∀ i ∈ l, i < ks.length ∧ (row.length : Int) + (w + 1 : Nat) + gi ks i ≤ most := by
        intro i hi
        rw [← hl] at hi
        simpa using hi
      have hlp : 0 < l.length := by
        obtain ⟨i, i0, i1, i2⟩ := hk.leaf
        have : i.toNat ∈ l := by
          rw [← hl]
          simp only [List.mem_filter, List.mem_range, decide_eq_true_eq]
          rw [show ((i.toNat : Nat) : Int) = i by omega]
          omega
        exact List.length_pos_of_mem this
      have hll : l.length ≤ 6 := by
        rw [← hl]
        have := List.length_filter_le (fun (i : Nat) => decide ((row.length : Int) + (w + 1 : Nat) + gi ks i ≤ most)) (List.range ks.length)
        have := hk.most
        simp at *
        omega
      have hs : sm row.length = true := sm_of (by omega)
      have ho : okQ ks.length = true := okQ_of (by omega) (by have := hk.most; omega)
      have hw : (0 : Int) < w + 1 := by omega
      simp [Nat.add_assoc] at e
      by_cases hkd : 0 < kd
      · obtain ⟨d, bn1, ht, d0, d1⟩ := take_ok k bn 5 (by omega) (by omega) p (s ++ [.lst row])
        by_cases hd : 2 < d
        · obtain ⟨x, bn2, ht2, x0, x1⟩ := take_ok k bn1 states (by omega) (by omega) p (s ++ [.lst row])
          obtain ⟨y, bn3, ht3, y0, y1⟩ := take_ok k bn2 kd (by omega) (by omega) p (s ++ [.lst row])
          obtain ⟨row', bn', o7', o8', r1, r2, r3⟩ := ih fuel (row ++ [hD (x, y)]) w bn3 none o8 (by omega) (by simp; omega) (by simp; omega) (h3.hole ⟨trivial, ⟨x0, x1⟩, y0, y1⟩)
          refine ⟨row', bn', o7', o8', ?_, r2, r3⟩
          rw [← r1]
          simp -implicitDefEqProofs [Nat.add_assoc, whlG_succ, hw, u__law_made_1, ho, e, finC, hkd, ht, hd, ht2, ht3, hs, hD]
        · obtain ⟨d2, bn2, ht2, x0, x1⟩ := take_ok k bn1 l.length (by omega) (by omega) p (s ++ [.lst row])
          obtain ⟨i, him, hi⟩ := atI_mem' x0 x1
          have hi2 := hlm i him
          have a1 : atI ks i = some (gi ks i) := atI_ok (by omega) (by omega)
          have hg := hk.two _ (gi_mem (ks := ks) (x := i) (by omega) (by omega))
          obtain ⟨row', bn', o7', o8', r1, r2, r3⟩ := ih fuel (row ++ [.int i]) (w + (gi ks i).toNat) bn2 none (some (.d (.int i))) (by omega) (by simp; omega) (by simp; omega) (h3.sign (cl_mr ks states kd) hk.two (by omega) (by omega))
          refine ⟨row', bn', o7', o8', ?_, r2, r3⟩
          rw [← r1]
          have ew : (w : Int) + 1 + gi ks i - 1 = w + max (gi ks i) 0 := by omega
          simp -implicitDefEqProofs [Nat.add_assoc, whlG_succ, hw, u__law_made_1, ho, e, finC, hkd, ht, hd, ht2, hi, hs, a1, ew]
      · obtain ⟨d2, bn2, ht2, x0, x1⟩ := take_ok k bn l.length (by omega) (by omega) p (s ++ [.lst row])
        obtain ⟨i, him, hi⟩ := atI_mem' x0 x1
        have hi2 := hlm i him
        have a1 : atI ks i = some (gi ks i) := atI_ok (by omega) (by omega)
        have hg := hk.two _ (gi_mem (ks := ks) (x := i) (by omega) (by omega))
        obtain ⟨row', bn', o7', o8', r1, r2, r3⟩ := ih fuel (row ++ [.int i]) (w + (gi ks i).toNat) bn2 none (some (.d (.int i))) (by omega) (by simp; omega) (by simp; omega) (h3.sign (cl_mr ks states kd) hk.two (by omega) (by omega))
        refine ⟨row', bn', o7', o8', ?_, r2, r3⟩
        rw [← r1]
        have ew : (w : Int) + 1 + gi ks i - 1 = w + max (gi ks i) 0 := by omega
        simp -implicitDefEqProofs [Nat.add_assoc, whlG_succ, hw, u__law_made_1, ho, e, finC, hkd, ht2, hi, hs, a1, ew]
theorem made_ok (k : Nat) (ks : List Int) (hk : KsOk ks) (most states kd : Int) (hm0 : 1 ≤ most) (hm : most ≤ 5000) (hs0 : 1 ≤ states) (hs1 : states ≤ 1000) (hd0 : 0 ≤ kd) (hd1 : kd ≤ 1000) (bn : Int) (p s : Sto) : ∃ (t : Mr) (bn' : Int), call prog (k + 2) F__law_made [.loc p.length, .d (.int kd), .d (.lst (ks.map .int)), .d (.int states), .d (.int most)] (p ++ bx bn :: s) = .ok (.d (mD t)) (p ++ bx bn' :: s) ∧ MrOk ks states kd t ∧ (t.size : Int) ≤ most := by
  obtain ⟨row', bn', o7', o8', r1, r2, r3⟩ := made_loop k (p.length + (s.length + 1 + 1)) ks hk most states kd hm hs0 hs1 hd0 hd1 p s most.toNat 1000000 [] 1 bn none none (by omega) (by simp; omega) (by simp; omega) (PreT.start _ _)
  obtain ⟨t, t1, t2⟩ := r3.fin
  refine ⟨t, bn', ?_, t1, by rw [← t2, T.row_len] at r2; exact r2⟩
  rw [at__law_made]
  simp -implicitDefEqProofs [Nat.add_assoc, ] at r1
  simp -implicitDefEqProofs [Nat.add_assoc, runN_eq, b__law_made, r1, mD, t2]
end G

set_option maxRecDepth 10000
namespace TT
/-- drawn made rows -/
structure RowsDr (ks gl : List Int) (most : Int) (rows : List (List Mr)) : Prop where
  pos : 1 ≤ rows.length
  three : rows.length ≤ 3
  len : ∀ r ∈ rows, r.length = ks.length
  mr : ∀ r ∈ rows, ∀ (i : Nat) (m : Mr), r[i]? = some m → MrOk gl rows.length (gi ks i) m ∧ (m.size : Int) ≤ most
theorem RowsDr.ok {b g : Bk} {most : Int} {rows : List (List Mr)} (h : RowsDr b.ks g.ks most rows) (hm : most ≤ 8) : RowsOk b g rows := ⟨h.pos, h.three, h.len, fun r hr i m hi => ⟨(h.mr r hr i m hi).1, by have := (h.mr r hr i m hi).2; omega⟩⟩
end TT
namespace G
open TT
theorem rows_in (k : Nat) (gl : List Int) (hg : KsOk gl) (most states : Int) (hm0 : 1 ≤ most) (hm : most ≤ 5000) (hs0 : 1 ≤ states) (hs1 : states ≤ 1000) (wk w5 : W) (g : List D) (p s : Sto) : ∀ (q : List Int) (acc : List Mr) (bn : Int), acc.length + q.length ≤ 10000 → (∀ x ∈ q, 0 ≤ x ∧ x ≤ 2) →
    ∃ (ms : List Mr) (bn' : Int), lcG (cx prog (k + 2)) (.nm 6) .nil (.call F__law_made (.cons (.v 0) (.cons (.v 6) (.cons (.v 2) (.cons (.v 4) (.cons (.v 3) .nil)))))) [some (.loc p.length), some wk, some (.d (.lst (gl.map .int))), some (.d (.int most)), some (.d (.int states)), some w5, none] (g, none) (p.length + (s.length + 1)) (q.map .int) (p ++ bx bn :: (s ++ [.lst (acc.map mD)])) = .ok () (p ++ bx bn' :: (s ++ [.lst ((acc ++ ms).map mD)])) ∧ ms.length = q.length ∧ ∀ (i : Nat) (m : Mr), ms[i]? = some m → MrOk gl states (gi q i) m ∧ (m.size : Int) ≤ most := by
  intro q
  induction q with
  | nil => intro acc bn hl hq; exact ⟨[], bn, by simp -implicitDefEqProofs [Nat.add_assoc, ], rfl, by simp⟩
  | cons x q ih =>
    intro acc bn hl hq
    have hx := hq x (by simp)
    obtain ⟨t, bn1, t1, t2, t3⟩ := made_ok k gl hg most states x hm0 hm hs0 hs1 hx.1 (by omega) bn p (s ++ [.lst (acc.map mD)])
    obtain ⟨ms, bn', m1, m2, m3⟩ := ih (acc ++ [t]) bn1 (by simp at hl ⊢; omega) (fun y hy => hq y (by simp [hy]))
    refine ⟨t :: ms, bn', ?_, by simp [m2], ?_⟩
    · have hs : sm acc.length = true := sm_of (by simp at hl; omega)
      rw [show acc ++ t :: ms = acc ++ [t] ++ ms by simp, ← m1]
      simp -implicitDefEqProofs [Nat.add_assoc, lcG_cons, lcA, t1, hs]
    · intro i m hi
      cases i with
      | zero => simp at hi; subst hi; exact ⟨t2, t3⟩
      | succ i =>
        have := m3 i m (by simpa using hi)
        rw [gi_nat] at this ⊢
        simpa using this
theorem rows_out (k : Nat) (ks gl : List Int) (hk : KsOk ks) (hg : KsOk gl) (most states : Int) (hm0 : 1 ≤ most) (hm : most ≤ 5000) (hs0 : 1 ≤ states) (hs1 : states ≤ 1000) (g : List D) (p s : Sto) : ∀ (d : Nat) (j : Int) (acc : List (List Mr)) (bn : Int), acc.length + d ≤ 10000 →
    ∃ (rs : List (List Mr)) (bn' : Int), lcG (cx prog (k + 2)) (.nm 5) .nil (.lc true [6] (.nm 6) (.seq (.v 1)) .nil (.call F__law_made (.cons (.v 0) (.cons (.v 6) (.cons (.v 2) (.cons (.v 4) (.cons (.v 3) .nil))))))) [some (.loc p.length), some (.d (.lst (ks.map .int))), some (.d (.lst (gl.map .int))), some (.d (.int most)), some (.d (.int states)), none, none] (g, none) (p.length + (s.length + 1)) (rngD j (j + d)) (p ++ bx bn :: (s ++ [.lst (acc.map fun r => .lst (r.map mD))])) = .ok () (p ++ bx bn' :: (s ++ [.lst ((acc ++ rs).map fun r => .lst (r.map mD))])) ∧ rs.length = d ∧ ∀ r ∈ rs, r.length = ks.length ∧ ∀ (i : Nat) (m : Mr), r[i]? = some m → MrOk gl states (gi ks i) m ∧ (m.size : Int) ≤ most := by
  intro d
  induction d with
  | zero => intro j acc bn hl; exact ⟨[], bn, by simp -implicitDefEqProofs [Nat.add_assoc, rngD_nil], rfl, by simp⟩
  | succ d ih =>
    intro j acc bn hl
    obtain ⟨ms, bn1, m1, m2, m3⟩ := rows_in k gl hg most states hm0 hm hs0 hs1 (.d (.lst (ks.map .int))) (.d (.int j)) (ks.map .int) p (s ++ [.lst (acc.map fun r => .lst (r.map mD))]) ks [] bn (by have := hk.most; simp; omega) hk.two
    obtain ⟨rs, bn', r1, r2, r3⟩ := ih (j + 1) (acc ++ [ms]) bn1 (by simp; omega)
    refine ⟨ms :: rs, bn', ?_, by simp [r2], ?_⟩
    · have hs : sm acc.length = true := sm_of (by omega)
      rw [show acc ++ ms :: rs = acc ++ [ms] ++ rs by simp, ← r1, rngD_cons (by omega), show j + 1 + (d : Int) = j + ((d : Int) + 1) by omega]
      simp -implicitDefEqProofs [Nat.add_assoc, ] at m1
      simp -implicitDefEqProofs [Nat.add_assoc, lcG_cons, lcA, m1, hs, finC]
    · intro r hr
      rcases List.mem_cons.mp hr with rfl | hr
      · exact ⟨m2, m3⟩
      · exact r3 r hr
theorem rows_ok (k : Nat) (ks gl : List Int) (hk : KsOk ks) (hg : KsOk gl) (most : Int) (hm0 : 1 ≤ most) (hm : most ≤ 5000) (bn : Int) (p s : Sto) : ∃ (rows : List (List Mr)) (bn' : Int), call prog (k + 3) F__law_rows [.loc p.length, .d (.lst (ks.map .int)), .d (.lst (gl.map .int)), .d (.int most)] (p ++ bx bn :: s) = .ok (.d (rowsD rows)) (p ++ bx bn' :: s) ∧ RowsDr ks gl most rows := by
  obtain ⟨d, bn1, ht, d0, d1⟩ := take_ok (k + 1) bn 3 (by omega) (by omega) p s
  obtain ⟨m, hm⟩ : ∃ m : Nat, d + 1 = m := ⟨(d + 1).toNat, by omega⟩
  obtain ⟨rs, bn', r1, r2, r3⟩ := rows_out k ks gl hk hg most m hm0 (by omega) (by omega) (by omega) (rngD 0 m) p s m 0 [] bn1 (by simp; omega)
  have ho : okQ m = true := okQ_of (by omega) (by omega)
  refine ⟨rs, bn', ?_, ⟨by omega, by omega, fun r hr => (r3 r hr).1, fun r hr i x hi => ?_⟩⟩
  · rw [at__law_rows]
    simp -implicitDefEqProofs [Nat.add_assoc, ] at r1
    have : 1 + d = m := by omega
    simp -implicitDefEqProofs [Nat.add_assoc, runN_eq, b__law_rows, ht, this, ho, r1, finC, rowsD]
  · have := (r3 r hr).2 i x hi
    rw [r2]
    exact this
end G

set_option maxRecDepth 10000
namespace G
open TT
open PySem (Str)
theorem let_len : (Str.length "abcdefghijklmnopqrstuvwxyz") = 26 := by decide +kernel
theorem let_ix (i : Int) (h0 : 0 ≤ i) (h1 : i < 26) (s : Sto) : opSem .ix [.d (.str "abcdefghijklmnopqrstuvwxyz"), .d (.int i)] s = .ok (.w (.d (.str ⟨#[97 + i.toNat]⟩))) s := by
  have e : atI (Str.cps "abcdefghijklmnopqrstuvwxyz").toList i = some (97 + i.toNat) := by
    have := LET_list
    unfold LET at this
    rw [this, atI_ok h0 (by simp; omega)]
    unfold gi
    have : i.toNat < 26 := by omega
    simp [List.getD, this]
  have hs : sm (Str.length "abcdefghijklmnopqrstuvwxyz") = true := sm_of (by rw [let_len]; omega)
  rw [o_ix_s, hs, e]
  rfl
theorem len1 (c : Nat) : Str.length ⟨#[c]⟩ = 1 := rfl
theorem app1 (a b : Nat) : (⟨#[a]⟩ : Str) ++ ⟨#[b]⟩ = ⟨#[a, b]⟩ := rfl
theorem signs_loop (k n : Nat) (leaf : Int) (w2 : W) (g : List D) (p s : Sto) : ∀ (d : Nat) (j : Int) (acc : Sg) (bn : Int), 0 ≤ j → acc.length + d ≤ 10000 →
    ∃ (sg : Sg) (bn' : Int), forG (cx prog (k + 1)) n (.nm 5) [5, 6, 7] l__law_signs_1 (g, none) (rngD j (j + d)) [some (.loc p.length), some (.d (.str "abcdefghijklmnopqrstuvwxyz")), some w2, some (.d (.int leaf)), some (.loc (p.length + (s.length + 1))), none, none, none] (p ++ bx bn :: (s ++ [.lst (acc.map fun x => .tup [.str x.1, .int x.2])])) = .ok (.nx, [some (.loc p.length), some (.d (.str "abcdefghijklmnopqrstuvwxyz")), some w2, some (.d (.int leaf)), some (.loc (p.length + (s.length + 1))), none, none, none]) (p ++ bx bn' :: (s ++ [.lst ((acc ++ sg).map fun x => .tup [.str x.1, .int x.2])])) ∧ sg.length = d ∧ ∀ (i : Nat) (x : Str × Int), sg[i]? = some x → DrAt leaf (j + i) x := by
  intro d
  induction d with
  | zero => intro j acc bn hj hl; exact ⟨[], bn, by simp -implicitDefEqProofs [Nat.add_assoc, rngD_nil], rfl, by simp⟩
  | succ d ih =>
    intro j acc bn hj hl
    have hs : sm acc.length = true := sm_of (by omega)
    have one : ∃ (x : Str × Int) (bn1 : Int), DrAt leaf j x ∧ ∀ r, forG (cx prog (k + 1)) n (.nm 5) [5, 6, 7] l__law_signs_1 (g, none) (.int j :: r) [some (.loc p.length), some (.d (.str "abcdefghijklmnopqrstuvwxyz")), some w2, some (.d (.int leaf)), some (.loc (p.length + (s.length + 1))), none, none, none] (p ++ bx bn :: (s ++ [.lst (acc.map fun x => .tup [.str x.1, .int x.2])])) = forG (cx prog (k + 1)) n (.nm 5) [5, 6, 7] l__law_signs_1 (g, none) r [some (.loc p.length), some (.d (.str "abcdefghijklmnopqrstuvwxyz")), some w2, some (.d (.int leaf)), some (.loc (p.length + (s.length + 1))), none, none, none] (p ++ bx bn1 :: (s ++ [.lst ((acc ++ [x]).map fun x => .tup [.str x.1, .int x.2])])) := by
      obtain ⟨a, b1, t1, a0, a1⟩ := take_ok k bn 4 (by omega) (by omega) p (s ++ [.lst (acc.map fun x => .tup [.str x.1, .int x.2])])
      obtain ⟨b, b2, t2, b0, b1'⟩ := take_ok k b1 4 (by omega) (by omega) p (s ++ [.lst (acc.map fun x => .tup [.str x.1, .int x.2])])
      have i1 := let_ix ((7 * (4 * j + a) + 13) % 26) (Int.emod_nonneg _ (by omega)) (Int.emod_lt_of_pos _ (by omega))
      have hz : ∀ c : Int, c = 0 ∨ c = 1 ∨ c = 2 → ∃ q : Int, 0 ≤ q ∧ q ≤ 2 ∧ atI [D.int 2, D.int 1, D.int 0] c = some (.int q) ∧ bg q = true := by
        intro c h
        rcases h with h | h | h <;> subst h
        · exact ⟨2, by omega, by omega, rfl, bg_of (by omega) (by omega)⟩
        · exact ⟨1, by omega, by omega, rfl, bg_of (by omega) (by omega)⟩
        · exact ⟨0, by omega, by omega, rfl, bg_of (by omega) (by omega)⟩
      by_cases hb : b = 3
      · obtain ⟨c, b3, t3, c0, c1⟩ := take_ok k b2 26 (by omega) (by omega) p (s ++ [.lst (acc.map fun x => .tup [.str x.1, .int x.2])])
        obtain ⟨e, b4, t4, e0, e1⟩ := take_ok k b3 3 (by omega) (by omega) p (s ++ [.lst (acc.map fun x => .tup [.str x.1, .int x.2])])
        obtain ⟨q, q0, q1, q2, q3⟩ := hz e (by omega)
        have i2 := let_ix c c0 c1
        refine ⟨(⟨#[97 + ((7 * (4 * j + a) + 13) % 26).toNat, 97 + c.toNat]⟩, q * if j = leaf then 0 else 1), b4, ⟨⟨a, a0, a1, ?_⟩, ?_, ?_, ?_⟩, ?_⟩
        · simp [hc]; omega
        · refine ⟨by show 1 ≤ 2; omega, by show 2 ≤ 2; omega, ?_⟩
          intro x hx
          simp at hx
          omega
        · simp only; split <;> omega
        · intro h; simp [h]
        · intro r
          have bg4 : bg 4 = true := bg_of (by omega) (by omega)
          have bg7 : bg 7 = true := bg_of (by omega) (by omega)
          by_cases hj : j = leaf
          · subst hj
            simp -implicitDefEqProofs [Nat.add_assoc, forG_cons, u__law_signs_1, t1, i1, t2, hb, t3, i2, t4, q2, q3, hs, fair, D.pl, len1, app1, bg4, bg7]
          · simp -implicitDefEqProofs [Nat.add_assoc, forG_cons, u__law_signs_1, t1, i1, t2, hb, t3, i2, t4, q2, q3, hs, fair, D.pl, len1, app1, hj, bg4, bg7]
      · obtain ⟨e, b4, t4, e0, e1⟩ := take_ok k b2 3 (by omega) (by omega) p (s ++ [.lst (acc.map fun x => .tup [.str x.1, .int x.2])])
        obtain ⟨q, q0, q1, q2, q3⟩ := hz e (by omega)
        refine ⟨(⟨#[97 + ((7 * (4 * j + a) + 13) % 26).toNat]⟩, q * if j = leaf then 0 else 1), b4, ⟨⟨a, a0, a1, ?_⟩, ?_, ?_, ?_⟩, ?_⟩
        · simp [hc]; omega
        · refine ⟨by show 1 ≤ 1; omega, by show 1 ≤ 2; omega, ?_⟩
          intro x hx
          simp at hx
          omega
        · simp only; split <;> omega
        · intro h; simp [h]
        · intro r
          have bg4 : bg 4 = true := bg_of (by omega) (by omega)
          have bg7 : bg 7 = true := bg_of (by omega) (by omega)
          by_cases hj : j = leaf
          · subst hj
            simp -implicitDefEqProofs [Nat.add_assoc, forG_cons, u__law_signs_1, t1, i1, t2, hb, t4, q2, q3, hs, fair, D.pl, len1, app1, bg4, bg7]
          · simp -implicitDefEqProofs [Nat.add_assoc, forG_cons, u__law_signs_1, t1, i1, t2, hb, t4, q2, q3, hs, fair, D.pl, len1, app1, hj, bg4, bg7]
    obtain ⟨x, bn1, h1, h2⟩ := one
    obtain ⟨sg, bn', s1, s2, s3⟩ := ih (j + 1) (acc ++ [x]) bn1 (by omega) (by simp; omega)
    refine ⟨x :: sg, bn', ?_, by simp [s2], ?_⟩
    · rw [rngD_cons (by omega), h2, show acc ++ x :: sg = acc ++ [x] ++ sg by simp, ← s1, show j + 1 + (d : Int) = j + ((d : Int) + 1) by omega]
      rfl
    · intro i y hi
      cases i with
      | zero => simp at hi; subst hi; simpa using h1
      | succ i =>
        have := s3 i y (by simpa using hi)
        rw [show j + ((i + 1 : Nat) : Int) = j + 1 + (i : Int) by omega]
        exact this
theorem signs_ok (k : Nat) (bn : Int) (p s : Sto) : ∃ (sg : Sg) (bn' : Int), call prog (k + 2) F__law_signs [.loc p.length] (p ++ bx bn :: s) = .ok (.d sg.d) (p ++ bx bn' :: s) ∧ sg.Dr := by
  obtain ⟨c, b1, t1, c0, c1⟩ := take_ok k bn 5 (by omega) (by omega) p s
  obtain ⟨l, b2, t2, l0, l1⟩ := take_ok k b1 (2 + c) (by omega) (by omega) p s
  obtain ⟨m, hm⟩ : ∃ m : Nat, 2 + c = m := ⟨(2 + c).toNat, by omega⟩
  obtain ⟨sg, bn', s1, s2, s3⟩ := signs_loop k (p.length + (s.length + 1 + 1)) l (.d (.int (2 + c))) (rngD 0 m) p s m 0 [] b2 (by omega) (by simp; omega)
  have ho : okQ m = true := okQ_of (by omega) (by omega)
  refine ⟨sg, bn', ?_, sg_dr sg l (by omega) (by omega) l0 (by omega) fun i x hi => by
    have := s3 i x hi
    rwa [Int.zero_add] at this⟩
  rw [hm] at t2 s1
  rw [at__law_signs]
  simp -implicitDefEqProofs [Nat.add_assoc, ] at s1
  simp -implicitDefEqProofs [Nat.add_assoc, runN_eq, b__law_signs, t1, hm, t2, ho, s1, leave_loc, Sg.d]
end G

set_option maxRecDepth 10000
namespace TT
open PySem (Str)
theorem app_len (a b : Str) : (a ++ b).length = a.length + b.length := by
  obtain ⟨⟨l⟩⟩ := a
  obtain ⟨⟨m⟩⟩ := b
  show (Array.append _ _).size = _
  simp [Str.length]
theorem app_list (a b : Str) : (a ++ b).cps.toList = a.cps.toList ++ b.cps.toList := by
  obtain ⟨⟨l⟩⟩ := a
  obtain ⟨⟨m⟩⟩ := b
  show (Array.append _ _).toList = _
  simp
theorem hc_app (a b : Str) (h : 1 ≤ a.length) : hc (a ++ b) = hc a := by
  unfold hc
  rw [app_list]
  have : a.cps.toList.length = a.length := rfl
  cases q : a.cps.toList with
  | nil => rw [q] at this; simp at this; omega
  | cons x l => rfl
/-- names told apart by their first letters -/
structure Sg.Ap (sg : Sg) : Prop where
  pos : 1 ≤ sg.length
  six : sg.length ≤ 6
  name : ∀ p ∈ sg, NameOk p.1
  nd : (sg.map fun p => hc p.1).Nodup
  kid : ∀ p ∈ sg, 0 ≤ p.2 ∧ p.2 ≤ 2
  leaf : ∃ p ∈ sg, p.2 = 0
theorem Sg.Ap.ok {sg : Sg} (h : sg.Ap) : sg.Ok := ⟨h.pos, h.six, h.name, by
  refine nodup_of_map hc ?_
  rw [List.map_map]
  exact h.nd, h.kid, h.leaf⟩
theorem Sg.Dr.ap {sg : Sg} (h : sg.Dr) : sg.Ap := ⟨by have := h.two; omega, h.six, fun p hp => by
  obtain ⟨a, b, c⟩ := h.name p hp
  exact ⟨a, by omega, c⟩, h.nd, h.kid, h.leaf⟩
theorem strq : (("q" : Str)) = ⟨#[113]⟩ := by decide +kernel
theorem strz : (("zzz" : Str)) = ⟨#[122, 122, 122]⟩ := by decide +kernel
/-- one sign put otherwise -/
theorem ap_set {sg : Sg} (h : sg.Dr) (i : Nat) (hi : i < sg.length) (x : Str × Int) (hx : NameOk x.1) (hh : hc x.1 = hc sg[i].1) (hk : 0 ≤ x.2 ∧ x.2 ≤ 2) (hz : sg[i].2 = 0 → x.2 = 0) : Sg.Ap (sg.take i ++ x :: sg.drop (i + 1)) := by
  have e : sg = sg.take i ++ sg[i] :: sg.drop (i + 1) := by simp
  have hm : ∀ p ∈ (sg.take i ++ x :: sg.drop (i + 1) : Sg), p = x ∨ p ∈ sg := by
    intro p hp
    rcases List.mem_append.mp hp with hp | hp
    · exact .inr (List.mem_of_mem_take hp)
    · rcases List.mem_cons.mp hp with hp | hp
      · exact .inl hp
      · exact .inr (List.mem_of_mem_drop hp)
  have h6 := h.six
  have h2 := h.two
  refine ⟨by simp; omega, by simp; omega, ?_, ?_, ?_, ?_⟩
  · intro p hp
    rcases hm p hp with rfl | hp
    · exact hx
    · exact h.ap.name p hp
  · have := h.nd
    rw [e] at this
    simp only [List.map_append, List.map_cons] at this ⊢
    rw [hh]
    exact this
  · intro p hp
    rcases hm p hp with rfl | hp
    · exact hk
    · exact h.kid p hp
  · obtain ⟨p, hp, hz0⟩ := h.leaf
    rw [e] at hp
    rcases List.mem_append.mp hp with hp | hp
    · exact ⟨p, List.mem_append.mpr (.inl hp), hz0⟩
    · rcases List.mem_cons.mp hp with hp | hp
      · exact ⟨x, by simp, hz (by rw [← hp]; exact hz0)⟩
      · exact ⟨p, by simp [hp], hz0⟩
theorem bk_inj {a b : Sg} (h : a.bk = b.bk) : a = b := by
  unfold Sg.bk at h
  injection h with h1 h2
  have hl : a.length = b.length := by have := congrArg List.length h1; simpa using this
  refine List.ext_getElem hl fun i h3 h4 => ?_
  have e1 := congrArg (fun l => l[i]?) h1
  have e2 := congrArg (fun l => l[i]?) h2
  simp [h3, h4] at e1 e2
  exact Prod.ext e1 e2
theorem set_ne {sg : Sg} (i : Nat) (hi : i < sg.length) (x : Str × Int) (hx : x ≠ sg[i]) : (sg.take i ++ x :: sg.drop (i + 1) : Sg) ≠ sg := by
  intro q
  have := congrArg (fun l => l[i]?) q
  simp [hi] at this
  rw [List.getElem?_append_right (by simp; omega)] at this
  simp [show min i sg.length = i by omega] at this
  exact hx this
theorem ap_more {sg : Sg} (h : sg.Dr) (hl : sg.length < 6) (d : Int) (h0 : 0 ≤ d) (h2 : d ≤ 2) : Sg.Ap (sg ++ [(("zzz" : Str), d)]) := by
  refine ⟨by simp, by simp; omega, ?_, ?_, ?_, ?_⟩
  · intro p hp
    rcases List.mem_append.mp hp with hp | hp
    · exact h.ap.name p hp
    · simp at hp
      subst hp
      rw [strz]
      refine ⟨by show 1 ≤ 3; omega, by show 3 ≤ 3; omega, ?_⟩
      intro c hc
      simp at hc
      omega
  · rw [List.map_append, List.nodup_append]
    refine ⟨h.nd, by simp, ?_⟩
    intro a ha b hb
    simp at hb
    subst hb
    obtain ⟨p, hp, rfl⟩ := List.mem_map.mp ha
    have := h.noz p hp
    rw [strz]
    exact this
  · intro p hp
    rcases List.mem_append.mp hp with hp | hp
    · exact h.kid p hp
    · simp at hp
      subst hp
      exact ⟨h0, h2⟩
  · obtain ⟨p, hp, hz⟩ := h.leaf
    exact ⟨p, by simp [hp], hz⟩
theorem ap_rev {sg : Sg} (h : sg.Dr) : Sg.Ap sg.reverse := by
  refine ⟨by have := h.two; simp; omega, by simp; exact h.six, fun p hp => h.ap.name p (by simpa using hp), ?_, fun p hp => h.kid p (by simpa using hp), ?_⟩
  · rw [List.map_reverse]
    exact (List.reverse_perm _).nodup_iff.mpr h.nd
  · obtain ⟨p, hp, hz⟩ := h.leaf
    exact ⟨p, by simp [hp], hz⟩
theorem rev_ne {sg : Sg} (h : sg.Dr) : sg.reverse ≠ sg := by
  have h2 := h.two
  have nd := h.nd
  match sg, h2, nd with
  | a :: b :: l, _, nd =>
    intro q
    have e := congrArg (fun l => l[0]?) q
    simp only [List.getElem?_cons_zero] at e
    rw [List.getElem?_reverse (by simp)] at e
    simp only [List.length_cons, Nat.add_sub_cancel, Nat.sub_zero] at e
    rw [List.Nodup, List.pairwise_iff_getElem] at nd
    have := nd 0 (l.length + 1) (by simp) (by simp) (by omega)
    simp only [List.getElem_map] at this
    simp only [List.getElem?_eq_getElem (show l.length + 1 < (a :: b :: l).length by simp), Option.some.injEq] at e
    rw [e] at this
    simp at this
end TT
namespace G
open TT
open PySem (Str)
theorem other_book_ok (k : Nat) (sg : Sg) (h : sg.Dr) (bn : Int) (p s : Sto) : ∃ (sg' : Sg) (bn' : Int), call prog (k + 2) F__law_other_book [.loc p.length, .d sg.d] (p ++ bx bn :: s) = .ok (.d sg'.d) (p ++ bx bn' :: s) ∧ sg'.Ap ∧ sg' ≠ sg := by
  have h2 := h.two
  have h6 := h.six
  obtain ⟨i, b1, t1, i0, i1⟩ := take_ok k bn sg.length (by omega) (by omega) p s
  obtain ⟨w, b2, t2, w0, w1⟩ := take_ok k b1 4 (by omega) (by omega) p s
  have hi : i.toNat < sg.length := by omega
  have a1 : atI (sg.map fun x => D.tup [.str x.1, .int x.2]) i = some (.tup [.str (sg[i.toNat]).1, .int (sg[i.toNat]).2]) := by
    unfold atI ixOf
    rw [if_pos i0, if_pos (by simp; omega)]
    simp [hi]
  have c1 := cut_lo (sg.map fun x => D.tup [.str x.1, .int x.2]) i i0 (by simp; omega)
  have c2 := cut_hi (sg.map fun x => D.tup [.str x.1, .int x.2]) (i + 1) (by omega) (by simp; omega)
  have s1 : sm (min i.toNat sg.length) = true := sm_of (by omega)
  have s2 : sm (min i.toNat sg.length + 1) = true := sm_of (by omega)
  have s3 : sm (sg.length - (i.toNat + 1)) = true := sm_of (by omega)
  have e1 : (i + 1).toNat = i.toNat + 1 := by omega
  have hk := h.kid sg[i.toNat] (List.getElem_mem _)
  obtain ⟨n1, n2, n3⟩ := h.name sg[i.toNat] (List.getElem_mem _)
  have sn : sm (sg[i.toNat]).1.length = true := sm_of (by omega)
  have sq : sm (Str.length "q") = true := sm_of (by rw [strq]; show 1 ≤ 10000; omega)
  rw [at__law_other_book]
  by_cases q1 : w = 0 ∨ ((sg[i.toNat]).2 = 0 ∧ w = 1)
  · refine ⟨sg.take i.toNat ++ ((sg[i.toNat]).1 ++ ("q" : Str), (sg[i.toNat]).2) :: sg.drop (i.toNat + 1), b2, ?_, ap_set h i.toNat hi _ ⟨?_, ?_, ?_⟩ (hc_app _ _ n1) hk fun e => e, set_ne _ hi _ ?_⟩
    · rcases q1 with q1 | ⟨q1, q2⟩
      · simp -implicitDefEqProofs [Nat.add_assoc, runN_eq, b__law_other_book, Sg.d, t1, t2, a1, setAll, q1, fair, D.pl, c1, c2, sn, sq, s1, s2, s3, e1]
      · simp -implicitDefEqProofs [Nat.add_assoc, runN_eq, b__law_other_book, Sg.d, t1, t2, a1, setAll, q1, q2, fair, D.pl, c1, c2, sn, sq, s1, s2, s3, e1]
    · rw [app_len]; omega
    · rw [app_len, strq]; show _ + 1 ≤ 3; omega
    · rw [app_list, strq]
      intro c hc
      rcases List.mem_append.mp hc with hc | hc
      · exact n3 c hc
      · simp at hc; omega
    · intro q
      have := congrArg (fun x => x.1.length) q
      simp only [app_len, strq] at this
      have h3 : Str.length ⟨#[113]⟩ = 1 := rfl
      omega
  · have q3 : ¬ w = 0 := fun q => q1 (.inl q)
    by_cases q4 : w = 1
    · have q5 : ¬ (sg[i.toNat]).2 = 0 := fun q => q1 (.inr ⟨q, q4⟩)
      refine ⟨sg.take i.toNat ++ ((sg[i.toNat]).1, 3 - (sg[i.toNat]).2) :: sg.drop (i.toNat + 1), b2, ?_, ap_set h i.toNat hi _ ⟨n1, by simp only; omega, n3⟩ rfl (by simp only; omega) fun e => absurd e q5, set_ne _ hi _ ?_⟩
      · simp -implicitDefEqProofs [Nat.add_assoc, runN_eq, b__law_other_book, Sg.d, t1, t2, a1, setAll, q4, q5, fair, D.pl, c1, c2, s1, s2, s3, e1]
      · intro q
        have := congrArg (fun x => x.2) q
        simp only at this
        omega
    · by_cases q6 : w = 2 ∧ sg.length < 6
      · obtain ⟨d, b3, t3, d0, d1⟩ := take_ok k b2 3 (by omega) (by omega) p s
        refine ⟨sg ++ [(("zzz" : Str), d)], b3, ?_, ap_more h q6.2 d d0 (by omega), by simp⟩
        have q7 : (sg.length : Int) < 6 := by omega
        have s4 : sm sg.length = true := sm_of (by omega)
        by_cases hz : (sg[i.toNat]).2 = 0 <;> simp -implicitDefEqProofs [Nat.add_assoc, hz, runN_eq, b__law_other_book, Sg.d, t1, t2, a1, setAll, q6.1, q7, t3, fair, D.pl, s4]
      · refine ⟨sg.reverse, b2, ?_, ap_rev h, rev_ne h⟩
        by_cases q8 : w = 2
        · have q7 : ¬ (sg.length : Int) < 6 := fun q => q6 ⟨q8, by omega⟩
          by_cases hz : (sg[i.toNat]).2 = 0 <;> simp -implicitDefEqProofs [Nat.add_assoc, hz, runN_eq, b__law_other_book, Sg.d, t1, t2, a1, setAll, q8, q7, fair, D.pl]
        · by_cases hz : (sg[i.toNat]).2 = 0 <;> simp -implicitDefEqProofs [Nat.add_assoc, hz, runN_eq, b__law_other_book, Sg.d, t1, t2, a1, setAll, q3, q4, q8, fair, D.pl]
end G

set_option maxRecDepth 10000
namespace G
open TT
theorem tab_in (k : Nat) (m : Nat) (hm0 : 1 ≤ m) (hm : m ≤ 1000) (w1 : W) (cnt : Int) (g : List D) (p s : Sto) : ∀ (d : Nat) (j : Int) (acc : List Int) (bn : Int), acc.length + d ≤ 10000 →
    ∃ (tb : List Int) (bn' : Int), lcG (cx prog (k + 1)) (.nm 4) .nil (.call F__law_take (.cons (.v 0) (.cons (.v 2) .nil))) [some (.loc p.length), some w1, some (.d (.int m)), some (.d (.int cnt)), none] (g, none) (p.length + (s.length + 1)) (rngD j (j + d)) (p ++ bx bn :: (s ++ [.lst (acc.map .int)])) = .ok () (p ++ bx bn' :: (s ++ [.lst ((acc ++ tb).map .int)])) ∧ tb.length = d ∧ ∀ x ∈ tb, 0 ≤ x ∧ x < (m : Int) := by
  intro d
  induction d with
  | zero => intro j acc bn hl; exact ⟨[], bn, by simp -implicitDefEqProofs [Nat.add_assoc, rngD_nil], rfl, by simp⟩
  | succ d ih =>
    intro j acc bn hl
    obtain ⟨x, b1, t1, x0, x1⟩ := take_ok k bn m (by omega) (by omega) p (s ++ [.lst (acc.map .int)])
    obtain ⟨tb, bn', e, h1, h2⟩ := ih (j + 1) (acc ++ [x]) b1 (by simp; omega)
    refine ⟨x :: tb, bn', ?_, by simp [h1], fun y hy => ?_⟩
    · have hs : sm acc.length = true := sm_of (by omega)
      rw [show acc ++ x :: tb = acc ++ [x] ++ tb by simp, ← e, rngD_cons (by omega), show j + 1 + (d : Int) = j + ((d : Int) + 1) by omega]
      simp -implicitDefEqProofs [Nat.add_assoc, lcG_cons, lcA, t1, hs]
    · rcases List.mem_cons.mp hy with rfl | hy
      · exact ⟨x0, x1⟩
      · exact h2 y hy
theorem tab_out (k : Nat) (m : Nat) (hm0 : 1 ≤ m) (hm : m ≤ 90) (w1 : W) (g : List D) (p s : Sto) : ∀ (q : List Int) (acc : List (List Int)) (bn : Int), acc.length + q.length ≤ 10000 → (∀ x ∈ q, 0 ≤ x ∧ x ≤ 2) →
    ∃ (ts : List (List Int)) (bn' : Int), lcG (cx prog (k + 1)) (.nm 3) .nil (.lc true [4] (.nm 4) (.rng1 (.op true .ix (.cons (.lst true (.cons (.k (.int 1)) (.cons (.v 2) (.cons (.op true .mul (.cons (.v 2) (.cons (.v 2) .nil))) .nil)))) (.cons (.v 3) .nil)))) .nil (.call F__law_take (.cons (.v 0) (.cons (.v 2) .nil)))) [some (.loc p.length), some w1, some (.d (.int m)), none, none] (g, none) (p.length + (s.length + 1)) (q.map .int) (p ++ bx bn :: (s ++ [.lst (acc.map fun t => .lst (t.map .int))])) = .ok () (p ++ bx bn' :: (s ++ [.lst ((acc ++ ts).map fun t => .lst (t.map .int))])) ∧ ts.length = q.length ∧ ∀ (i : Nat) (t : List Int), ts[i]? = some t → t.length = m ^ (gi q i).toNat ∧ ∀ x ∈ t, 0 ≤ x ∧ x < (m : Int) := by
  intro q
  induction q with
  | nil => intro acc bn hl hq; exact ⟨[], bn, by simp -implicitDefEqProofs [Nat.add_assoc, ], rfl, by simp⟩
  | cons c q ih =>
    intro acc bn hl hq
    have hc := hq c (by simp)
    have hmm : m * m ≤ 8100 := Nat.mul_le_mul hm hm
    obtain ⟨d, hd1, hd2, hd3⟩ : ∃ d : Nat, atI [D.int 1, D.int m, D.int ((m : Int) * m)] c = some (.int d) ∧ d = m ^ c.toNat ∧ d ≤ 9000 := by
      have : c = 0 ∨ c = 1 ∨ c = 2 := by omega
      rcases this with rfl | rfl | rfl
      · exact ⟨1, rfl, by simp, by omega⟩
      · exact ⟨m, rfl, by simp, by omega⟩
      · exact ⟨m * m, by show some _ = some _; simp, by rw [show (2 : Int).toNat = 2 from rfl, Nat.pow_two], by omega⟩
    obtain ⟨tb, b1, e1, h1, h2⟩ := tab_in k m hm0 (by omega) w1 c (rngD 0 d) p (s ++ [.lst (acc.map fun t => .lst (t.map .int))]) d 0 [] bn (by simp; omega)
    obtain ⟨ts, bn', e, g1, g2⟩ := ih (acc ++ [tb]) b1 (by simp at hl ⊢; omega) (fun y hy => hq y (by simp [hy]))
    refine ⟨tb :: ts, bn', ?_, by simp [g1], fun i t hi => ?_⟩
    · have hs : sm acc.length = true := sm_of (by simp at hl; omega)
      have ho : okQ d = true := okQ_of (by omega) (by omega)
      have hb : bg (m : Int) = true := bg_of (by omega) (by omega)
      rw [show acc ++ tb :: ts = acc ++ [tb] ++ ts by simp, ← e]
      rw [Int.zero_add] at e1
      simp -implicitDefEqProofs [Nat.add_assoc, ] at e1
      simp -implicitDefEqProofs [Nat.add_assoc, lcG_cons, lcA, hd1, ho, hb, e1, hs, finC]
    · cases i with
      | zero => simp at hi; subst hi; exact ⟨by rw [h1, hd2]; rfl, h2⟩
      | succ i =>
        have := g2 i t (by simpa using hi)
        rw [gi_nat] at this ⊢
        simpa using this
theorem law_tables_ok (k : Nat) (ks : List Int) (hk : KsOk ks) (m : Nat) (hm0 : 1 ≤ m) (hm : m ≤ 90) (bn : Int) (p s : Sto) : ∃ (ts : List (List Int)) (bn' : Int), call prog (k + 2) F__law_tables [.loc p.length, .d (.lst (ks.map .int)), .d (.int m)] (p ++ bx bn :: s) = .ok (.d (tabsD ts)) (p ++ bx bn' :: s) ∧ ts.length = ks.length ∧ ∀ sg : Int, 0 ≤ sg → sg < ks.length → (gi ts sg).length = m ^ (gi ks sg).toNat ∧ ∀ x ∈ gi ts sg, 0 ≤ x ∧ x < (m : Int) := by
  obtain ⟨ts, bn', e, h1, h2⟩ := tab_out k m hm0 hm (.d (.lst (ks.map .int))) (ks.map .int) p s ks [] bn (by have := hk.most; simp; omega) hk.two
  refine ⟨ts, bn', ?_, h1, fun sg h0 h3 => ?_⟩
  · rw [at__law_tables]
    simp -implicitDefEqProofs [Nat.add_assoc, ] at e
    simp -implicitDefEqProofs [Nat.add_assoc, runN_eq, b__law_tables, e, finC, tabsD]
  · obtain ⟨n, rfl⟩ := Int.eq_ofNat_of_zero_le h0
    have hn : n < ts.length := by omega
    have := h2 n ts[n] (by simp [hn])
    rw [gi_of (x := ts[n]) (by simp [hn])]
    exact this
theorem liked_in (k : Nat) (m : Nat) (g : List D) (p s : Sto) : ∀ (d : Nat) (j : Int) (acc : List Int) (bn : Int), acc.length + d ≤ 10000 → 0 ≤ j →
    ∃ (tb : List Int) (bn' : Int), lcG (cx prog (k + 1)) (.nm 2) (.cons (.op true .eq (.cons (.call F__law_take (.cons (.v 0) (.cons (.k (.int 2)) .nil))) (.cons (.k (.int 1)) .nil))) .nil) (.v 2) [some (.loc p.length), some (.d (.int m)), none] (g, none) (p.length + (s.length + 1)) (rngD j (j + d)) (p ++ bx bn :: (s ++ [.lst (acc.map .int)])) = .ok () (p ++ bx bn' :: (s ++ [.lst ((acc ++ tb).map .int)])) ∧ tb.Pairwise (· < ·) ∧ ∀ x ∈ tb, j ≤ x ∧ x < j + d := by
  intro d
  induction d with
  | zero => intro j acc bn hl hj; exact ⟨[], bn, by simp -implicitDefEqProofs [Nat.add_assoc, rngD_nil], by simp, by simp⟩
  | succ d ih =>
    intro j acc bn hl hj
    obtain ⟨x, b1, t1, x0, x1⟩ := take_ok k bn 2 (by omega) (by omega) p (s ++ [.lst (acc.map .int)])
    have hs : sm acc.length = true := sm_of (by omega)
    by_cases q : x = 1
    · obtain ⟨tb, bn', e, h1, h2⟩ := ih (j + 1) (acc ++ [j]) b1 (by simp; omega) (by omega)
      refine ⟨j :: tb, bn', ?_, ?_, fun y hy => ?_⟩
      · rw [show acc ++ j :: tb = acc ++ [j] ++ tb by simp, ← e, rngD_cons (by omega), show j + 1 + (d : Int) = j + ((d : Int) + 1) by omega]
        simp -implicitDefEqProofs [Nat.add_assoc, lcG_cons, lcA, t1, hs, q, fair, D.pl]
      · rw [List.pairwise_cons]
        exact ⟨fun y hy => by have := h2 y hy; omega, h1⟩
      · rcases List.mem_cons.mp hy with rfl | hy
        · omega
        · have := h2 y hy; omega
    · obtain ⟨tb, bn', e, h1, h2⟩ := ih (j + 1) acc b1 (by omega) (by omega)
      refine ⟨tb, bn', ?_, h1, fun y hy => by have := h2 y hy; omega⟩
      rw [← e, rngD_cons (by omega), show j + 1 + (d : Int) = j + ((d : Int) + 1) by omega]
      simp -implicitDefEqProofs [Nat.add_assoc, lcG_cons, lcA, t1, hs, q, fair, D.pl]
theorem law_liked_ok (k : Nat) (m : Nat) (hm : m ≤ 1000) (bn : Int) (p s : Sto) : ∃ (lk : List Int) (bn' : Int), call prog (k + 2) F__law_liked [.loc p.length, .d (.int m)] (p ++ bx bn :: s) = .ok (.d (.lst (lk.map .int))) (p ++ bx bn' :: s) ∧ Rising m lk := by
  obtain ⟨lk, bn', e, h1, h2⟩ := liked_in k m (rngD 0 m) p s m 0 [] bn (by simp; omega) (by omega)
  have ho : okQ m = true := okQ_of (by omega) (by omega)
  refine ⟨lk, bn', ?_, ⟨h1, fun x hx => by have := h2 x hx; omega⟩⟩
  rw [at__law_liked]
  rw [Int.zero_add] at e
  simp -implicitDefEqProofs [Nat.add_assoc, ] at e
  simp -implicitDefEqProofs [Nat.add_assoc, runN_eq, b__law_liked, ho, e, finC]
end G

set_option maxRecDepth 10000
namespace G
open TT
open PySem (Str)
theorem law_reader_ok (k : Nat) (ks : List Int) (hk : KsOk ks) (most : Int) (h1 : 1 ≤ most) (h2 : most ≤ 6) (bn : Int) (p s : Sto) : ∃ (m : Nat) (ts : List (List Int)) (lk : List Int) (bn' : Int), call prog (k + 3) F__law_reader [.loc p.length, .d (.lst (ks.map .int)), .d (.int most)] (p ++ bx bn :: s) = .ok (.d (.tup [tabsD ts, .int m, .lst (lk.map .int)])) (p ++ bx bn' :: s) ∧ 1 ≤ m ∧ (m : Int) ≤ most ∧ Rising m lk ∧ ts.length = ks.length ∧ ∀ sg : Int, 0 ≤ sg → sg < ks.length → (gi ts sg).length = m ^ (gi ks sg).toNat ∧ ∀ x ∈ gi ts sg, 0 ≤ x ∧ x < (m : Int) := by
  obtain ⟨d, b1, t1, d0, d1⟩ := take_ok (k + 1) bn most (by omega) (by omega) p s
  obtain ⟨m, hm⟩ : ∃ m : Nat, 1 + d = m := ⟨(1 + d).toNat, by omega⟩
  obtain ⟨ts, b2, t2, tl, tt⟩ := law_tables_ok k ks hk m (by omega) (by omega) b1 p s
  obtain ⟨lk, b3, t3, hlk⟩ := law_liked_ok k m (by omega) b2 p s
  refine ⟨m, ts, lk, b3, ?_, by omega, by omega, hlk, tl, tt⟩
  rw [at__law_reader]
  simp -implicitDefEqProofs [Nat.add_assoc, runN_eq, b__law_reader, t1, hm, t2, t3]
theorem law_told_eq (k : Nat) (sg : Sg) (h : sg.Ok) (r : Rd) (hb : r.bk = sg.bk) (hr : r.Ok) (h6 : r.n ≤ 6) (hk : Rising r.n r.lk) (s : Sto) : call prog (k + 6) F__law_told [.d sg.d, .d (.tup [tabsD r.tabs, .int r.n, .lst (r.lk.map .int)])] s = .ok (.d (oReader r)) s := by
  have e := fun s => new_Reader (k + 1) r hr h6 hk s
  have e2 := fun s => new_Book k sg h s
  have a1 : ∀ a b c : D, atI [a, b, c] 1 = some b := fun _ _ _ => rfl
  have a2 : ∀ a b c : D, atI [a, b, c] 2 = some c := fun _ _ _ => rfl
  rw [hb] at e
  rw [at__law_told]
  simp -implicitDefEqProofs [Nat.add_assoc, runN_eq, b__law_told, e2, a2, e]
theorem fair_sgs (a b : Sg) : fair a.d b.d = true := by
  have h : ∀ (n : Nat) (l : Sg), Ds.pl false (n + 1) (l.map fun p => D.tup [.str p.1, .int p.2]) = true := by
    intro n l
    induction l with
    | nil => simp [Ds.pl]
    | cons x l ih => simp [Ds.pl, D.pl, ih]
  simp [fair, Sg.d, D.pl, h]
theorem sg_d_inj {a b : Sg} : a.d = b.d ↔ a = b := by
  constructor
  · intro h
    unfold Sg.d at h
    injection h with h
    refine List.map_inj_right (f := fun p : Str × Int => D.tup [.str p.1, .int p.2]) (fun x y e => ?_) |>.mp h
    injection e with e
    injection e with e1 e2
    injection e1 with e1
    injection e2 with e2 _
    injection e2 with e2
    exact Prod.ext e1 e2
  · intro h; rw [h]
theorem alike_right_ok (k : Nat) (a b : Sg) (ha : a.Ok) (hb : b.Ok) (s : Sto) : call prog (k + 6) F__law_alike_right [.d a.d, .d b.d] s = .ok (.d (.bl true)) s := by
  have e1 := fun s => new_Book k a ha s
  have e2 := fun s => new_Book k b hb s
  have il := fun (x y : Bk) s => Book_is_like (k + 4) x y s
  have six := ha.six
  have lc := lcG_map1 (c := cx prog (k + 5)) (n := s.length) (tg := .tp [4, 5]) (g := (a.map fun p => D.tup [.str p.1, .int p.2], none)) (ifs := .nil) (elt := .tup (.cons (.v 4) (.cons (.v 5) .nil))) (e := [some (.d a.d), some (.d b.d), none, none, none, none]) (s := s) (fun p : Str × Int => D.tup [.str p.1, .int p.2]) (fun p => .tup [.str p.1, .int p.2]) a (by omega) (fun x hx acc r h => by
    simp [lcG_cons, lcA, h])
  have hq : decide (a.bk = b.bk) = decide (a.d = b.d) := by
    rw [decide_eq_decide, sg_d_inj]
    exact ⟨bk_inj, fun h => by rw [h]⟩
  have hf := fair_sgs a b
  rw [at__law_alike_right]
  simp only [Sg.d] at e1 e2 lc hq hf ⊢
  simp -implicitDefEqProofs [Nat.add_assoc, ] at e1 e2 lc il
  simp -implicitDefEqProofs [Nat.add_assoc, runN_eq, b__law_alike_right, e1, e2, lc, finC, il, hf, fair_bb, hq]
end G

set_option maxRecDepth 10000
namespace TT
theorem o_mul_l (xs : List D) (j : Int) (s : Sto) (h : xs.length ≤ 10000) (h0 : 0 ≤ j) (h1 : j ≤ 1000) : opSem .mul [.d (.lst xs), .d (.int j)] s = .ok (.fl (List.replicate j.toNat xs).flatten) s := by
  simp only [opSem, mulS, lstM, small]
  simp [h, h0, h1]
theorem o_mul_t (xs : List D) (j : Int) (s : Sto) (h : xs ≠ []) (hl : xs.length ≤ 1000) (h0 : 2 ≤ j) (h1 : j ≤ 1000) : opSem .mul [.d (.tup xs), .d (.int j)] s = .ok (.w (.d (.tup (List.replicate j.toNat xs).flatten))) s := by
  simp only [opSem, mulS]
  rw [if_pos ⟨h, hl, h0, h1⟩]
  rfl
end TT
namespace G
open TT
open PySem (Str)
theorem landing_no (k : Nat) (t : Tn) (src goal : Rd) (s : Sto) (h : t.bk ≠ src.bk ∨ t.gl ≠ goal.bk) : ∃ s', newG (call prog (k + 6)) F_Landing___init__ C_Landing true [.d (oTurner t), .d (oReader src), .d (oReader goal)] s = .err X_Unlike (s ++ s') := by
  refine ⟨[.obj C_Landing [] []], newG_err2 ?_⟩
  have e1 := fun s => must_be_like_eq (k + 3) t.bk src.bk s
  have e2 := fun s => must_be_like_eq (k + 3) src.bk src.bk s
  rw [at_Landing___init__]
  by_cases q : t.bk = src.bk
  · have q2 : t.gl ≠ goal.bk := h.resolve_left (fun z => z q)
    have e3 := fun s => new_Ahead_no k t goal s q2
    simp -implicitDefEqProofs [Nat.add_assoc, ] at e2 e3
    simp -implicitDefEqProofs [Nat.add_assoc, runN_eq, b_Landing___init__, q, e2, e3]
  · simp -implicitDefEqProofs [Nat.add_assoc, ] at e1
    simp -implicitDefEqProofs [Nat.add_assoc, runN_eq, b_Landing___init__, e1, q]
theorem lands_no (k : Nat) (t : Tn) (src goal : Rd) (s : Sto) (h : t.bk ≠ src.bk ∨ t.gl ≠ goal.bk) : call prog (k + 8) F_lands [.d (oTurner t), .d (oReader src), .d (oReader goal)] s = .err X_Unlike s := by
  obtain ⟨s', e⟩ := landing_no k t src goal s h
  rw [at_lands]
  simp -implicitDefEqProofs [Nat.add_assoc, runN_eq, b_lands, e]
theorem shows_lands_no (k : Nat) (t : Tn) (src goal : Rd) (w : W) (s : Sto) (h : t.bk ≠ src.bk ∨ t.gl ≠ goal.bk) : call prog (k + 8) F_shows_lands [.d (oTurner t), .d (oReader src), .d (oReader goal), w] s = .err X_Unlike s := by
  obtain ⟨s', e⟩ := landing_no k t src goal s h
  rw [at_shows_lands]
  simp -implicitDefEqProofs [Nat.add_assoc, runN_eq, b_shows_lands, e]
theorem back_no (k : Nat) (t : Tn) (ht : t.Ok) (row : List Int) (hr : ¬ (row.length ≤ 40 ∧ endOf t.gl.ks row 1 0 = row.length)) (hl : row.length < 1000000) (s : Sto) : call prog (k + 5) F_back [.d (oTurner t), .d (.tup (row.map .int))] s = .err X_NoTree s := by
  have e := fun s => check_tree_eq k t.gl ht.gl row hl s
  rw [at_back]
  simp -implicitDefEqProofs [Nat.add_assoc, runN_eq, b_back, e, hr]
theorem refusals_ok (k : Nat) (t : Tn) (src goal : Rd) (ds : List D) (s : Sto) (h : t.bk ≠ src.bk ∨ t.gl ≠ goal.bk) : call prog (k + 11) F__law_refusals [.d (oTurner t), .d (oReader src), .d (oReader goal), .d (.lst ds)] s = .ok (.d (.lst [.str "unlike", .str "unlike"])) s := by
  have e1 := fun s => lands_no k t src goal s h
  have e2 := fun w s => shows_lands_no k t src goal w s h
  have dn : (cx prog (k + 10)).down = cx prog (k + 8) := cx_down prog (k + 8)
  have hs : sm 1 = true := sm_of (by omega)
  rw [at__law_refusals]
  simp -implicitDefEqProofs [Nat.add_assoc, runN_eq, b__law_refusals, dn, e1, e2, hs, leave_loc]
theorem bad_rows (ks : List Int) (row : List Int) (h : row ∈ [[], [-1], [(ks.length : Int)], List.replicate 41 0, [100000000000000000000]]) (h6 : ks.length ≤ 6) : ¬ (row.length ≤ 40 ∧ endOf ks row 1 0 = row.length) := by
  simp only [List.mem_cons, List.not_mem_nil, or_false] at h
  rcases h with rfl | rfl | rfl | rfl | rfl
  · simp [endOf]
  · simp [endOf]
  · simp [endOf]
  · simp
  · simp only [endOf]
    rw [if_neg (by omega)]
    simp
end G

set_option maxRecDepth 10000
namespace G
open TT
open PySem (Str)
theorem takes_in (k : Nat) (e0 : List (Option W)) (he : e0.length = 16) (g : List D) (p s : Sto) : ∀ (d : Nat) (j : Int) (acc : List Int) (bn : Int), acc.length + d ≤ 10000 →
    ∃ (tb : List Int) (bn' : Int), lcG (cx prog (k + 1)) (.nm 17) .nil (.call F__law_take (.cons (.v 0) (.cons (.k (.int 3)) .nil))) (some (.loc p.length) :: (e0 ++ [none])) (g, none) (p.length + (s.length + 1)) (rngD j (j + d)) (p ++ bx bn :: (s ++ [.lst (acc.map .int)])) = .ok () (p ++ bx bn' :: (s ++ [.lst ((acc ++ tb).map .int)])) := by
  match e0, he with
  | [w1, w2, w3, w4, w5, w6, w7, w8, w9, w10, w11, w12, w13, w14, w15, w16], _ =>
  intro d
  induction d with
  | zero => intro j acc bn hl; exact ⟨[], bn, by simp -implicitDefEqProofs [Nat.add_assoc, rngD_nil]⟩
  | succ d ih =>
    intro j acc bn hl
    obtain ⟨x, b1, t1, x0, x1⟩ := take_ok k bn 3 (by omega) (by omega) p (s ++ [.lst (acc.map .int)])
    obtain ⟨tb, bn', e⟩ := ih (j + 1) (acc ++ [x]) b1 (by simp; omega)
    refine ⟨x :: tb, bn', ?_⟩
    have hs : sm acc.length = true := sm_of (by omega)
    rw [show acc ++ x :: tb = acc ++ [x] ++ tb by simp, ← e, rngD_cons (by omega), show j + 1 + (d : Int) = j + ((d : Int) + 1) by omega]
    simp -implicitDefEqProofs [Nat.add_assoc, lcG_cons, lcA, t1, hs]
theorem fair_un : fair (.lst [.str "unlike", .str "unlike"]) (.lst [.str "unlike", .str "unlike"]) = true := by simp [fair, D.pl, Ds.pl]
theorem right_turn (k n : Nat) {ga gb : Sg} (ha : ga.Dr) (hb : gb.Dr) {t : Tn} (ht : t.Ok) (tb : t.bk = ga.bk) (tg : t.gl = gb.bk) {src goal : Rd} (w5 w6 : Option W) (g : List D) (p s : Sto) (j : Int) (bn : Int) :
    ∃ bn' : Int, ∀ rest, forG (cx prog (k + 100)) n (.nm 2) [2, 9, 10, 11, 12, 13, 14, 15, 16, 17] l__law_right_3 (g, none) (.int j :: rest) [some (.loc p.length), some (.d (oTurner t)), none, some (.d ga.d), some (.d gb.d), w5, w6, some (.d (oReader src)), some (.d (oReader goal)), none, none, none, none, none, none, none, none, none] (p ++ bx bn :: s) = forG (cx prog (k + 100)) n (.nm 2) [2, 9, 10, 11, 12, 13, 14, 15, 16, 17] l__law_right_3 (g, none) rest [some (.loc p.length), some (.d (oTurner t)), none, some (.d ga.d), some (.d gb.d), w5, w6, some (.d (oReader src)), some (.d (oReader goal)), none, none, none, none, none, none, none, none, none] (p ++ bx bn' :: s) := by
  obtain ⟨fa, b1, t1, hfa, nfa⟩ := other_book_ok (k + 98) ga ha bn p s
  obtain ⟨fb, b2, t2, hfb, nfb⟩ := other_book_ok (k + 98) gb hb b1 p s
  have al1 := fun s => alike_right_ok (k + 94) ga fa ha.ok hfa.ok s
  have al2 := fun s => alike_right_ok (k + 94) fb gb hfb.ok hb.ok s
  have n1 := fun s => numbers_eq (k + 99) fa (by have := hfa.ok.six; omega) s
  have n2 := fun s => numbers_eq (k + 99) fb (by have := hfb.ok.six; omega) s
  obtain ⟨m1, ts1, lk1, b3, t3, p1, p2, r1, tl1, tt1⟩ := law_reader_ok (k + 97) fa.ks hfa.ok.ks 2 (by omega) (by omega) b2 p s
  obtain ⟨m2, ts2, lk2, b4, t4, q1, q2, r2, tl2, tt2⟩ := law_reader_ok (k + 97) fb.ks hfb.ok.ks 2 (by omega) (by omega) b3 p s
  have o1 : (⟨fa.bk, m1, ts1, lk1⟩ : Rd).Ok := ⟨hfa.ok.bk, p1, tl1, tt1, by simp; omega⟩
  have o2 : (⟨fb.bk, m2, ts2, lk2⟩ : Rd).Ok := ⟨hfb.ok.bk, q1, tl2, tt2, by simp; omega⟩
  have e1 := fun s => law_told_eq (k + 94) fa hfa.ok ⟨fa.bk, m1, ts1, lk1⟩ rfl o1 (by simp; omega) r1 s
  have e2 := fun s => law_told_eq (k + 94) fb hfb.ok ⟨fb.bk, m2, ts2, lk2⟩ rfl o2 (by simp; omega) r2 s
  obtain ⟨x1, b5, t5, x10, x11⟩ := take_ok (k + 99) b4 3 (by omega) (by omega) p s
  obtain ⟨x2, b6, t6, x20, x21⟩ := take_ok (k + 99) b5 3 (by omega) (by omega) p s
  obtain ⟨d, hd⟩ := Int.eq_ofNat_of_zero_le x20
  subst hd
  obtain ⟨l, b7, t7⟩ := takes_in (k + 99) [some (.d (oTurner t)), some (.d (.int j)), some (.d ga.d), some (.d gb.d), w5, w6, some (.d (oReader src)), some (.d (oReader goal)), some (.d fa.d), some (.d fb.d), some (.d (oReader ⟨fa.bk, m1, ts1, lk1⟩)), some (.d (oReader ⟨fb.bk, m2, ts2, lk2⟩)), none, none, none, none] rfl (rngD 0 d) p s d 0 [] b6 (by simp; omega)
  obtain ⟨x3, b8, t8, x30, x31⟩ := take_ok (k + 99) b7 3 (by omega) (by omega) p s
  have od : okQ (d : Int) = true := okQ_of (by omega) (by omega)
  have ml := fun st => o_mul_l [.tup [.int (x1 - 1), .tup (l.map .int)]] x3 st (by simp) x30 (by omega)
  have nb1 : t.bk ≠ fa.bk := fun h => nfa (bk_inj (by rw [← h, tb]))
  have nb2 : t.gl ≠ fb.bk := fun h => nfb (bk_inj (by rw [← h, tg]))
  have f1 := fun ds s => refusals_ok (k + 89) t ⟨fa.bk, m1, ts1, lk1⟩ goal ds s (.inl nb1)
  have f2 := fun ds s => refusals_ok (k + 89) t src ⟨fb.bk, m2, ts2, lk2⟩ ds s (.inr nb2)
  have f3 := fun ds s => refusals_ok (k + 89) t ⟨fa.bk, m1, ts1, lk1⟩ ⟨fb.bk, m2, ts2, lk2⟩ ds s (.inl nb1)
  have bf := fun s => before_no (k + 92) t ⟨fb.bk, m2, ts2, lk2⟩ s nb2
  have dn : (cx prog (k + 100)).down = cx prog (k + 98) := cx_down prog (k + 98)
  have six := hb.six
  have gll : t.gl.ks.length = gb.length := by rw [tg]; simp [Sg.bk]
  have bd : ∀ row ∈ [[], [-1], [(t.gl.ks.length : Int)], List.replicate 41 0, [100000000000000000000]], ∀ s, call prog (k + 98) F_back [.d (oTurner t), .d (.tup (row.map .int))] s = .err X_NoTree s := fun row hrow s => back_no (k + 93) t ht row (bad_rows _ row hrow (by omega)) (by
    simp only [List.mem_cons, List.not_mem_nil, or_false] at hrow
    rcases hrow with rfl | rfl | rfl | rfl | rfl <;> simp) s
  have bd1 := bd [] (by simp)
  have bd2 := bd [-1] (by simp)
  have bd3 := bd [(t.gl.ks.length : Int)] (by simp)
  have bd4 := bd (List.replicate 41 0) (by simp)
  have bd5 := bd [100000000000000000000] (by simp)
  rw [gll] at bd3
  have mt := fun st => o_mul_t [.int 0] 41 st (by simp) (by simp) (by omega) (by omega)
  rw [show (41 : Int).toNat = 41 from rfl] at mt
  have rep : (List.replicate 41 [D.int 0]).flatten = List.replicate 41 (D.int 0) := by decide
  rw [rep] at mt
  have b10 : bg 10 = true := bg_of (by omega) (by omega)
  have p20 : (10 : Int) ^ (20 : Int).toNat = 100000000000000000000 := by decide
  have fu := fair_un
  refine ⟨b8, fun rest => ?_⟩
  rw [Int.zero_add] at t7
  simp only [List.map_nil, List.map_cons, List.map_replicate] at bd1 bd2 bd3 bd4 bd5
  have gl0 : gb.d = .lst (gb.map fun p => .tup [.str p.1, .int p.2]) := rfl
  have lenb : ∀ st, opSem .len [.d gb.d] st = .ok (.w (.d (.int gb.length))) st := fun st => by rw [gl0, o_len_l]; simp
  simp -implicitDefEqProofs [Nat.add_assoc, ] at e1 e2 t1 t2 t3 t4 t7 f1 f2 f3 bf bd1 bd2 bd3 bd4 bd5
  simp -implicitDefEqProofs [Nat.add_assoc, forG_cons, u__law_right_3, t1, t2, al1, al2, n1, n2, t3, t4, e1, e2, t5, t6, od, t7, finC, t8, ml, u__law_right_1, f1, f2, f3, fu, dn, bf, lenb, mt, b10, p20, u__law_right_2, bd1, bd2, bd3, bd4, bd5]
end G

set_option maxRecDepth 10000
namespace G
open TT
open PySem (Str)
theorem right_loop (k n : Nat) {ga gb : Sg} (ha : ga.Dr) (hb : gb.Dr) {t : Tn} (ht : t.Ok) (tb : t.bk = ga.bk) (tg : t.gl = gb.bk) {src goal : Rd} (w5 w6 : Option W) (g : List D) (p s : Sto) : ∀ (m : Nat) (j : Int) (bn : Int),
    ∃ bn' : Int, forG (cx prog (k + 100)) n (.nm 2) [2, 9, 10, 11, 12, 13, 14, 15, 16, 17] l__law_right_3 (g, none) (rngD j (j + m)) [some (.loc p.length), some (.d (oTurner t)), none, some (.d ga.d), some (.d gb.d), w5, w6, some (.d (oReader src)), some (.d (oReader goal)), none, none, none, none, none, none, none, none, none] (p ++ bx bn :: s) = .ok (.nx, [some (.loc p.length), some (.d (oTurner t)), none, some (.d ga.d), some (.d gb.d), w5, w6, some (.d (oReader src)), some (.d (oReader goal)), none, none, none, none, none, none, none, none, none]) (p ++ bx bn' :: s) := by
  intro m
  induction m with
  | zero => intro j bn; exact ⟨bn, by simp [rngD_nil]⟩
  | succ m ih =>
    intro j bn
    obtain ⟨b1, e1⟩ := right_turn k n ha hb ht tb tg w5 w6 g p s j bn (src := src) (goal := goal)
    obtain ⟨b2, e2⟩ := ih (j + 1) b1
    refine ⟨b2, ?_⟩
    rw [rngD_cons (by omega), e1, ← e2, show j + 1 + (m : Int) = j + ((m + 1 : Nat) : Int) by omega]
theorem bk_leaf {sg : Sg} (h : sg.Dr) : ∃ i : Int, 0 ≤ i ∧ i < sg.bk.ks.length ∧ gi sg.bk.ks i = 0 := h.ok.ks.leaf
theorem right_ok (k : Nat) (bn : Int) (p s : Sto) : ∃ bn' : Int, call prog (k + 101) F__law_right [.loc p.length] (p ++ bx bn :: s) = .ok (.d (.bl true)) (p ++ bx bn' :: s) := by
  obtain ⟨ga, b1, t1, ha⟩ := signs_ok (k + 98) bn p s
  obtain ⟨gb, b2, t2, hb⟩ := signs_ok (k + 98) b1 p s
  have n1 := fun s => numbers_eq (k + 99) ga (by have := ha.six; omega) s
  have n2 := fun s => numbers_eq (k + 99) gb (by have := hb.six; omega) s
  obtain ⟨rows, b4, t4, hrows⟩ := rows_ok (k + 97) ga.ks gb.ks ha.ok.ks hb.ok.ks 3 (by omega) (by omega) b2 p s
  obtain ⟨m1, ts1, lk1, b5, t5, p1, p2, r1, tl1, tt1⟩ := law_reader_ok (k + 97) ga.ks ha.ok.ks 2 (by omega) (by omega) b4 p s
  obtain ⟨m2, ts2, lk2, b6, t6, q1, q2, r2, tl2, tt2⟩ := law_reader_ok (k + 97) gb.ks hb.ok.ks 2 (by omega) (by omega) b5 p s
  have o1 : (⟨ga.bk, m1, ts1, lk1⟩ : Rd).Ok := ⟨ha.ok.bk, p1, tl1, tt1, by simp; omega⟩
  have o2 : (⟨gb.bk, m2, ts2, lk2⟩ : Rd).Ok := ⟨hb.ok.bk, q1, tl2, tt2, by simp; omega⟩
  have e1 := fun s => law_told_eq (k + 94) ga ha.ok ⟨ga.bk, m1, ts1, lk1⟩ rfl o1 (by simp; omega) r1 s
  have e2 := fun s => law_told_eq (k + 94) gb hb.ok ⟨gb.bk, m2, ts2, lk2⟩ rfl o2 (by simp; omega) r2 s
  have okR : RowsOk ga.bk gb.bk rows := RowsDr.ok (b := ga.bk) (g := gb.bk) hrows (by omega)
  have ot : (⟨ga.bk, gb.bk, rows⟩ : Tn).Ok := okR.tn ha.ok.bk hb.ok.bk
  have nT := fun s => new_Turner (k + 95) ga.bk gb.bk ha.ok.bk hb.ok.bk rows okR s
  have l3 := okR.three
  have hpow : m2 ^ rows.length ≤ 100 := by
    have hm3 : m2 ≤ 2 := by omega
    have : m2 ^ rows.length ≤ 2 ^ rows.length := Nat.pow_le_pow_left hm3 _
    have : 2 ^ rows.length ≤ 2 ^ 3 := Nat.pow_le_pow_right (by omega) l3
    omega
  obtain ⟨b7, e7⟩ := right_loop k (p.length + (s.length + 1)) ha hb ot rfl rfl (src := ⟨ga.bk, m1, ts1, lk1⟩) (goal := ⟨gb.bk, m2, ts2, lk2⟩) (some (.d (.lst (ga.ks.map .int)))) (some (.d (.lst (gb.ks.map .int)))) (rngD 0 5) p s 5 0 b6
  obtain ⟨r', h1, h2, h4, eb⟩ := before_ok (k + 85) (p ++ bx b7 :: s) ot o2 rfl hpow (bk_leaf ha)
  have o5 : okQ 5 = true := okQ_of (by omega) (by omega)
  have dn : (cx prog (k + 100)).down = cx prog (k + 98) := cx_down prog (k + 98)
  refine ⟨b7, ?_⟩
  rw [at__law_right]
  rw [Int.zero_add, show ((5 : Nat) : Int) = 5 from rfl] at e7
  have ic : ∀ st, opSem (.isCls C_Reader) [.d (oReader r')] st = .ok (.w (.d (.bl true))) st := fun st => by unfold oReader; rw [o_isCls_o]; simp
  simp -implicitDefEqProofs [Nat.add_assoc, ] at e1 e2 e7 nT eb t5 t6 ic
  simp -implicitDefEqProofs [Nat.add_assoc, runN_eq, b__law_right, t1, t2, n1, n2, t4, t5, t6, e1, e2, ha.ok, hb.ok, ha.ok.bk, hb.ok.bk, okR, nT, o5, e7, dn, eb, ic]
end G

set_option maxRecDepth 10000
namespace G
open TT
open PySem (Str)
theorem law_lap (k n : Nat) (ns : List Int) (i : Nat) (lap : Int) (s : Sto) (g : List D) : ∃ s' : Sto, ∀ r, forG (cx prog (k + 102)) n (.nm 2) [2] l_law_1 (g, none) (.int lap :: r) [some (.d (.rol (ns.map .int))), some (.d (.int i)), none] s = forG (cx prog (k + 102)) n (.nm 2) [2] l_law_1 (g, none) r [some (.d (.rol (ns.map .int))), some (.d (.int i)), none] s' := by
  obtain ⟨b0, t0⟩ := box_ok (k + 100) ns i lap s
  obtain ⟨b1, t1⟩ := right_ok (k + 1) b0 s []
  refine ⟨s ++ [bx b1], fun r => ?_⟩
  simp -implicitDefEqProofs [Nat.add_assoc, forG_cons, u_law_1, t0, t1]
theorem law_k (k n : Nat) (ns : List Int) (g : List D) : ∀ (m : Nat) (i : Nat) (s : Sto), ∃ s' : Sto, forG (cx prog (k + 102)) n (.nm 1) [1, 2] l_law_2 (g, none) (rngD i (i + m)) [some (.d (.rol (ns.map .int))), none, none] s = .ok (.nx, [some (.d (.rol (ns.map .int))), none, none]) s' := by
  intro m
  induction m with
  | zero => intro i s; exact ⟨s, by simp [rngD_nil]⟩
  | succ m ih =>
    intro i s
    obtain ⟨s1, e1⟩ := law_lap k s.length ns i 0 s (rngD 0 2)
    obtain ⟨s2, e2⟩ := law_lap k s.length ns i 1 s1 (rngD 0 2)
    obtain ⟨s3, e3⟩ := ih (i + 1) s2
    refine ⟨s3, ?_⟩
    rw [rngD_cons (by omega), ← e3]
    simp only [rngD02] at e1 e2
    rw [show ((i + 1 : Nat) : Int) + m = i + ((m : Int) + 1) by omega]
    have ho2 : okQ 2 = true := okQ_of (by omega) (by omega)
    simp -implicitDefEqProofs [Nat.add_assoc, forG_cons, u_law_2, rngD02, ho2, e1, e2]
theorem law_call (k : Nat) (ns : List Int) : ∃ s, call prog (k + 103) F_law [.d (.rol (ns.map .int))] [] = .ok (.d (.bl true)) s := by
  obtain ⟨m, hm, h3⟩ : ∃ m : Nat, (if ((if (3 : Int) < ns.length then 3 else (ns.length : Int))) > 1 then (if (3 : Int) < ns.length then 3 else (ns.length : Int)) else 1) = m ∧ m ≤ 3 := by
    refine ⟨((if ((if (3 : Int) < ns.length then 3 else (ns.length : Int))) > 1 then (if (3 : Int) < ns.length then 3 else (ns.length : Int)) else 1)).toNat, ?_, ?_⟩
    · split <;> split <;> omega
    · split <;> split <;> omega
  obtain ⟨s', e⟩ := law_k k 0 ns (rngD 0 m) m 0 []
  have ho : okQ m = true := okQ_of (by omega) (by omega)
  refine ⟨[], ?_⟩
  rw [at_law]
  simp at e
  simp -implicitDefEqProofs [Nat.add_assoc, runN_eq, b_law]
  simp only [gt_iff_lt] at hm
  rw [hm, ho]
  simp -implicitDefEqProofs [Nat.add_assoc, e]
theorem law_run0 (ns : List Int) : ∃ s, Phi prog 227 F_law [.d (.rol (ns.map .int))] [] = .ok (.d (.bl true)) s := by
  obtain ⟨s, e⟩ := law_call 124 ns
  rw [call_eq] at e
  exact ⟨s, e⟩
end G

namespace G
theorem law_run : ∀ ns : List Int, ns.length ≤ 63 → (∀ z ∈ ns, PySem.Builtin.Int.intBits z ≤ 1048576) → ∃ s, TT.Phi sig.P 227 li [.d (.rol (ns.map .int))] [] = .ok (.d (.bl true)) s := fun ns _ _ => law_run0 ns
end G
open PySem PySem.W PySem.Calls PyProof.Rows
theorem PySem.Challenge.cw_treehands_k48_refusals_of_landing_holds : PySem.Challenge.rw_treehands_k48_refusals_of_landing.Holds := by
  w_on; o_law
  refine HandSHeadRun.head_any (r := OpenLaw.row PySem.Challenge.rw_treehands_k48_refusals_of_landing) (q := view (OpenLaw.row PySem.Challenge.rw_treehands_k48_refusals_of_landing).prog [93]) (H := G.hk) (ob := G.ob) (M := 30000) (loose := G.names) (d := HandSHeadRun.topDef (OpenLaw.row PySem.Challenge.rw_treehands_k48_refusals_of_landing).prog 93) (kwd := []) G.ob_eq
    (by kernel_rfl) (fun s => by kernel_rfl) G.run (by kernel_rfl) (by kernel_rfl) (by kernel_rfl) (by rfl) (by first | assumption | decide +kernel) (by decide +kernel) ⟨rfl, rfl, rfl, rfl, rfl, by decide +kernel⟩ ?hw ?hc
  case hw => w_witness2
  case hc =>
    refine LamX.walk_ofTsE (l := PySem.Challenge.rw_treehands_k48_refusals_of_landing) (n := 63) (k := 226 + 5) (x := "_law_script") (CX := fun w => L2.CX PySem.Challenge.rw_treehands_k48_refusals_of_landing.prog w) rfl (by decide) (by kernel_rfl) ⟨rfl, by decide, by decide⟩ ?F ?X
    · intro w mg fa h Y G0 hmg0
      obtain ⟨K, KX, c⟩ := Y
      have hmg : mg ("law" : PySem.Str) = some (.ref fa) := by
        have e : (HandSHeadRun.topDef (OpenLaw.row PySem.Challenge.rw_treehands_k48_refusals_of_landing).prog 93).name = ("law" : PySem.Str) := by kernel_rfl
        rw [← e]
        exact hmg0
      exact ⟨K, KX, TS.law_at (li := G.li) (k := 226) G.plan KX G0 hmg c G.ex_ok G.nw_ok (G.ask_ok KX G0 c) G.law_run⟩
    · intro w H s e s' h
      obtain ⟨_, _, _, _, _, _, _, _, _, _, _, _, z⟩ := h
      exact z

