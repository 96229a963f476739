import PyProof.Rows.All
import Wide.All
import OpenK.AllK
import Wide.FinOn
import PySem.Str
import HandS.Exc
import HandS.HeadHook2
import HandS.HeadHook4
import HandS.Head0
import HandS.Head1
import HandS.Head2
import HandS.ForMost
import HandS.ExcCtx
import HandS.ExcOwn
import HandS.TryOnly
import HandS.Lambda
import KE.KeyNested
import KE.KDictKeyed
import HandS.TupAny
import HandS.TupMul
import HandS.Style
import HandS.IsInst
import HandS.Text
import KE.DataEq
import KE.LtData
import KE.DataCmp
import KE.SortData
import HandS.Conv
import KE.KTupSum
import HandS.SortInts
import HandS.More
import HandS.Deep
import HandS.HeadWalk
import HandS.Rev
import KE.GoesEnum
import KE.GoesMore
import HandS.EndTab
import HandS.NestedK
import HandS.HotCalls
import HandS.ExcIs
import HandS.Words
import KE.KStateDown
import Lean
import HandS.Ends
import HandS.Defaults
import HandS.HeadEnd
import PySem.Challenge.RW_treehands_k50_whole_again_and_behind
set_option Elab.async false
set_option linter.all false
/-! A small language for the defs of a program, its data, and what its defs do: plain Lean. -/
namespace TT
open PySem (Str)

/-- data that nothing changes -/
inductive D where
  | non | bl (b : Bool) | int (i : Int) | str (x : Str)
  | tup (ds : List D) | lst (ds : List D) | rol (ds : List D) | dct (t : Nat) (ks vs : List D) | obj (c : Nat) (ks : List Nat) (vs : List D)
  deriving Inhabited

mutual
def D.beq : D → D → Bool
  | .non, .non => true
  | .bl a, .bl b => a == b
  | .int a, .int b => a == b
  | .str a, .str b => a == b
  | .tup a, .tup b => Ds.beq a b
  | .lst a, .lst b => Ds.beq a b
  | .rol a, .rol b => Ds.beq a b
  | .dct t a a', .dct u b b' => t == u && Ds.beq a b && Ds.beq a' b'
  | .obj c a a', .obj d b b' => c == d && a == b && Ds.beq a' b'
  | _, _ => false
def Ds.beq : List D → List D → Bool
  | [], [] => true
  | x :: xs, y :: ys => D.beq x y && Ds.beq xs ys
  | _, _ => false
end
mutual
theorem D.beq_refl : ∀ a : D, D.beq a a = true
  | .non => rfl
  | .bl a => by simp [D.beq]
  | .int a => by simp [D.beq]
  | .str a => by simp [D.beq]
  | .tup a => by simp [D.beq, Ds.beq_refl a]
  | .lst a => by simp [D.beq, Ds.beq_refl a]
  | .rol a => by simp [D.beq, Ds.beq_refl a]
  | .dct t a b => by simp [D.beq, Ds.beq_refl a, Ds.beq_refl b]
  | .obj c a b => by simp [D.beq, Ds.beq_refl b]
theorem Ds.beq_refl : ∀ a : List D, Ds.beq a a = true
  | [] => rfl
  | x :: xs => by simp [Ds.beq, D.beq_refl x, Ds.beq_refl xs]
end
mutual
theorem D.eq_of_beq : ∀ a b : D, D.beq a b = true → a = b
  | .non, b, h => by cases b <;> simp_all [D.beq]
  | .bl a, b, h => by cases b <;> simp_all [D.beq]
  | .int a, b, h => by cases b <;> simp_all [D.beq]
  | .str a, b, h => by cases b <;> simp_all [D.beq]
  | .tup a, b, h => by
    cases b with
    | tup b => exact congrArg D.tup (Ds.eq_of_beq a b (by simpa [D.beq] using h))
    | _ => simp [D.beq] at h
  | .lst a, b, h => by
    cases b with
    | lst b => exact congrArg D.lst (Ds.eq_of_beq a b (by simpa [D.beq] using h))
    | _ => simp [D.beq] at h
  | .rol a, b, h => by
    cases b with
    | rol b => exact congrArg D.rol (Ds.eq_of_beq a b (by simpa [D.beq] using h))
    | _ => simp [D.beq] at h
  | .dct t a a', b, h => by
    cases b with
    | dct u b b' =>
      simp only [D.beq, Bool.and_eq_true, beq_iff_eq] at h
      rw [h.1.1, Ds.eq_of_beq a b h.1.2, Ds.eq_of_beq a' b' h.2]
    | _ => simp [D.beq] at h
  | .obj c a a', b, h => by
    cases b with
    | obj d b b' =>
      simp only [D.beq, Bool.and_eq_true, beq_iff_eq] at h
      rw [h.1.1, h.1.2, Ds.eq_of_beq a' b' h.2]
    | _ => simp [D.beq] at h
theorem Ds.eq_of_beq : ∀ a b : List D, Ds.beq a b = true → a = b
  | [], b, h => by cases b <;> simp_all [Ds.beq]
  | x :: xs, b, h => by
    cases b with
    | nil => simp [Ds.beq] at h
    | cons y ys =>
      simp only [Ds.beq, Bool.and_eq_true] at h
      rw [D.eq_of_beq x y h.1, Ds.eq_of_beq xs ys h.2]
end
instance : DecidableEq D := fun a b =>
  if h : D.beq a b = true then .isTrue (D.eq_of_beq a b h) else .isFalse fun e => h (e ▸ D.beq_refl a)

/-- a value: data, or a thing of the store that may change -/
inductive W where
  | d (x : D) | loc (l : Nat)
  deriving Inhabited, DecidableEq
/-- what the store holds -/
inductive M where
  | lst (ds : List D) | dct (t : Nat) (ks vs : List D) | obj (c : Nat) (ks : List Nat) (vs : List D) | dead
  deriving Inhabited
abbrev Sto := List M
/-- how a piece of code ends: a value, an error of a class, or it is not told -/
inductive R (α : Type) where
  | ok (a : α) (s : Sto) | err (c : Nat) (s : Sto) | no
  deriving Inhabited
@[inline] def R.bind {α β : Type} (r : R α) (f : α → Sto → R β) : R β := match r with
  | .ok a s => f a s
  | .err c s => .err c s
  | .no => .no
/-- an error is not told of -/
def R.calm {α : Type} (r : R α) : R α := match r with
  | .err _ _ => .no
  | r => r
@[simp] theorem R.calm_ok {α : Type} (a : α) (s : Sto) : (R.ok a s).calm = .ok a s := rfl
@[simp] theorem R.bind_ok {α β : Type} (a : α) (s : Sto) (f : α → Sto → R β) : (R.ok a s).bind f = f a s := rfl
@[simp] theorem R.bind_err {α β : Type} (c : Nat) (s : Sto) (f : α → Sto → R β) : (R.err c s).bind f = .err c s := rfl
@[simp] theorem R.bind_no {α β : Type} (f : α → Sto → R β) : (R.no : R α).bind f = .no := rfl
theorem R.bind_assoc {α β γ : Type} (r : R α) (f : α → Sto → R β) (g : β → Sto → R γ) : (r.bind f).bind g = r.bind fun a s => (f a s).bind g := by cases r <;> rfl
def R.of {α : Type} (o : Option α) (s : Sto) : R α := match o with
  | some a => .ok a s
  | none => .no
@[simp] theorem R.of_some {α : Type} (a : α) (s : Sto) : R.of (some a) s = .ok a s := rfl
@[simp] theorem R.of_none {α : Type} (s : Sto) : (R.of none s : R α) = .no := rfl

/-- operators and built-ins, by values -/
inductive Op where
  | add | sub | mul | fdiv | mod | pow | neg
  | eq | ne | lt | le | gt | ge | isN | notN | isB | notB
  | inS | ninS | inD | ninD | inT | ninT
  | ix | dget
  | len | lenD | abs | int | sum | max1 | min1 | sorted | max2 | min2 | divmod | isTup | isCls (c : Nat)
  | list | tuple | listRev | tupleRev | all | any
  | append | pop | index | extend | count
  deriving Repr, DecidableEq

mutual
inductive E where
  | v (i : Nat) | k (d : D) | g (x : Nat) (d : D)
  | op (fz : Bool) (o : Op) (es : Es) | bm (fz : Bool) (o : Op) (a : E) (es : Es)
  | chain (o o' : Op) (a b c : E)
  | bop (isAnd : Bool) (es : Es) | not (a : E) | ife (c a b : E)
  | tup (es : Es) | lst (fz : Bool) (es : Es) | dic (fz : Bool) (t : Nat)
  | slc (fz : Bool) (a : E) (lo hi : Es) | rev (fz : Bool) (a : E)
  | attr (a : E) (f : Nat)
  | call (f : Nat) (es : Es) | meth (a : E) (m : Nat) (es : Es) | new (fz : Bool) (c : Nat) (es : Es) | new0 (c : Nat) | fz (a : E)
  | lc (fz : Bool) (own : List Nat) (tg : Tg) (it : It) (ifs : Es) (elt : E)
  | ask (e : E)
inductive Es where
  | nil | cons (e : E) (es : Es)
inductive Tg where
  | nm (i : Nat) | tp (is : List Nat)
inductive It where
  | seq (e : E) | txt (e : E) | rng1 (a : E) | rng2 (a b : E) | enm (a : E) | revs (a : E) | zip (a b : E)
end
mutual
inductive S where
  | asg (tg : Tg) (e : E)
  | par (is : List Nat) (es : Es)
  | sub (o i e : E) | dput (o i e : E) | fld (o : E) (f : Nat) (e : E)
  | ex (e : E) | ret (e : E) | retN
  | ite (c : E) (a b : Ss)
  | for (tg : Tg) (it : It) (kill : List Nat) (body : Ss)
  | whl (n : Nat) (c : E) (kill : List Nat) (body : Ss)
  | raise (c : Nat)
  | try1 (body : Ss) (c : Nat) (suite : Ss)
  | pass | brk | cnt
  | gfrz (i : Nat) | gdrop (i : Nat)
inductive Ss where
  | nil | cons (s : S) (r : Ss)
end
def Es.len : Es → Nat
  | .nil => 0
  | .cons _ r => r.len + 1
abbrev Env := List (Option W)
inductive Fl where
  | nx | brk | cnt | ret (w : W)
  deriving Inhabited

/-! ### values -/
/-- a fresh thing, or a value -/
inductive Vl where
  | w (w : W) | fl (ds : List D) | fd (t : Nat)
def fin (fz : Bool) (v : Vl) (s : Sto) : R W := match v with
  | .w x => .ok x s
  | .fl ds => if fz then .ok (.d (.lst ds)) s else .ok (.loc s.length) (s ++ [.lst ds])
  | .fd t => if fz then .ok (.d (.dct t [] [])) s else .ok (.loc s.length) (s ++ [.dct t [] []])
/-- a list or a tuple that is read -/
def seqOf (s : Sto) : W → Option (List D)
  | .d (.lst ds) => some ds
  | .d (.rol ds) => some ds
  | .d (.tup ds) => some ds
  | .loc l => match s[l]? with
    | some (.lst ds) => some ds
    | _ => none
  | _ => none
/-- a list that is read -/
def lstOf (s : Sto) : W → Option (List D)
  | .d (.lst ds) => some ds
  | .d (.rol ds) => some ds
  | .loc l => match s[l]? with
    | some (.lst ds) => some ds
    | _ => none
  | _ => none
/-- a list of the program's own making -/
def lstM (s : Sto) : W → Option (List D)
  | .d (.lst ds) => some ds
  | .loc l => match s[l]? with
    | some (.lst ds) => some ds
    | _ => none
  | _ => none
def tupOf : W → Option (List D)
  | .d (.tup ds) => some ds
  | _ => none
/-- as data, a list of the store read -/
def datOf (s : Sto) : W → Option D
  | .d x => some x
  | .loc l => match s[l]? with
    | some (.lst ds) => some (.lst ds)
    | _ => none
def dctOf (s : Sto) : W → Option (Nat × List D × List D)
  | .d (.dct t ks vs) => some (t, ks, vs)
  | .loc l => match s[l]? with
    | some (.dct t ks vs) => some (t, ks, vs)
    | _ => none
  | _ => none
def objOf (s : Sto) : W → Option (Nat × List Nat × List D)
  | .d (.obj c ks vs) => some (c, ks, vs)
  | .loc l => match s[l]? with
    | some (.obj c ks vs) => some (c, ks, vs)
    | _ => none
  | _ => none
def look {α β : Type} [DecidableEq α] (k : α) : List α → List β → Option β
  | a :: ks, b :: vs => if a = k then some b else look k ks vs
  | _, _ => none
def putKs {α : Type} [DecidableEq α] (k : α) (ks : List α) : List α := if k ∈ ks then ks else ks ++ [k]
def repVs {α β : Type} [DecidableEq α] (k : α) (v : β) : List α → List β → List β
  | a :: ks, b :: vs => (if a = k then v else b) :: repVs k v ks vs
  | _, _ => []
def putVs {α β : Type} [DecidableEq α] (k : α) (v : β) (ks : List α) (vs : List β) : List β := if k ∈ ks then repVs k v ks vs else vs ++ [v]
/-- of names that stand once each -/
def putN {β : Type} (k : Nat) (v : β) : List Nat → List β → List β
  | a :: ks, b :: vs => if a = k then v :: vs else b :: putN k v ks vs
  | _, _ => [v]
/-- the place of an index of any sign -/
def ixOf (n : Nat) (i : Int) : Option Nat := if 0 ≤ i then (if i < n then some i.toNat else none) else if -(n : Int) ≤ i then some (i + n).toNat else none
def atI {α : Type} (xs : List α) (i : Int) : Option α := (ixOf xs.length i).bind fun j => xs[j]?
def sIx (n d : Nat) : Option Int → Nat
  | none => d
  | some v => if v < 0 then (v + (n : Int)).toNat else min v.toNat n
def cut {α : Type} (xs : List α) (lo hi : Option Int) : List α :=
  (xs.drop (sIx xs.length 0 lo)).take (sIx xs.length xs.length hi - sIx xs.length 0 lo)
/-! numbers, texts, None, lists and tuples of such, n deep; with numbers, or with bools -/
mutual
def D.pl (b : Bool) : Nat → D → Bool
  | _, .non => true
  | _, .bl _ => b
  | _, .int _ => !b
  | _, .str _ => true
  | n + 1, .tup ds => Ds.pl b n ds
  | n + 1, .lst ds => Ds.pl b n ds
  | _, _ => false
def Ds.pl (b : Bool) : Nat → List D → Bool
  | _, [] => true
  | n, d :: ds => D.pl b n d && Ds.pl b n ds
end
/-- may the two be held against one another -/
def fair (a b : D) : Bool := (D.pl false 12 a && D.pl false 12 b) || (D.pl true 12 a && D.pl true 12 b)
def pyEq (a b : D) : Option Bool := if fair a b then some (decide (a = b)) else none
/-- an instance held against a text -/
def objStr : D → D → Bool
  | .obj _ _ _, .str _ => true
  | _, _ => false
def pyEqO (a b : D) : Option Bool := if fair a b || objStr a b then some (decide (a = b)) else none
/-- is a among them -/
def pyIn (a : D) (ds : List D) : Option Bool :=
  if (D.pl false 12 a && Ds.pl false 12 ds) || (D.pl true 12 a && Ds.pl true 12 ds) then some (decide (a ∈ ds)) else none
mutual
/-- a < b of numbers, of tuples of such -/
def D.lt : D → D → Option Bool
  | .int a, .int b => some (decide (a < b))
  | .tup a, .tup b => Ds.lt a b
  | _, _ => none
def Ds.lt : List D → List D → Option Bool
  | [], [] => some false
  | [], _ :: _ => some true
  | _ :: _, [] => some false
  | x :: xs, y :: ys => if x = y then Ds.lt xs ys else D.lt x y
end
mutual
/-- of one shape as far as both go -/
def D.al : Nat → D → D → Bool
  | _, .int _, .int _ => true
  | n + 1, .tup a, .tup b => Ds.al n a b
  | _, _, _ => false
def Ds.al : Nat → List D → List D → Bool
  | _, [], _ => true
  | _, _ :: _, [] => true
  | n, x :: xs, y :: ys => D.al n x y && Ds.al n xs ys
end
def dInts : List D → Option (List Int)
  | [] => some []
  | .int i :: r => (dInts r).map (i :: ·)
  | _ => none
def bls : List D → Option (List Bool)
  | [] => some []
  | .bl i :: r => (bls r).map (i :: ·)
  | _ => none
mutual
/-- no text in it -/
def D.ns : D → Bool
  | .non => true
  | .bl _ => true
  | .int _ => true
  | .tup ds => Ds.ns ds
  | .lst ds => Ds.ns ds
  | _ => false
def Ds.ns : List D → Bool
  | [] => true
  | d :: ds => D.ns d && Ds.ns ds
end
def flat : D → Bool
  | .non | .bl _ | .int _ | .str _ => true
  | _ => false
/-- what may be a dict's key here: numbers and texts; or tuples of them -/
def key1 : D → Bool
  | .int _ | .str _ => true
  | _ => false
def keyT : D → Bool
  | .tup ds => ds.all key1
  | _ => false
mutual
/-- numbers, None, tuples of such -/
def D.kn : Nat → D → Bool
  | _, .non => true
  | _, .int _ => true
  | n + 1, .tup ds => Ds.kn n ds
  | _, _ => false
def Ds.kn : Nat → List D → Bool
  | _, [] => true
  | n, d :: ds => D.kn n d && Ds.kn n ds
end
/-- .. tuples, tuples within -/
def keyN : D → Bool
  | .tup ds => Ds.kn 7 ds
  | _ => false
/-- may the key be asked of a dict of this kind; 3: an empty one whose kind is open -/
def keysOk (t : Nat) (k : D) : Bool := match t with
  | 0 => key1 k
  | 1 => keyT k
  | 2 => keyN k
  | 3 => key1 k || keyN k
  | _ => false
/-- the kind behind the first key -/
def kindK (t : Nat) (k : D) : Nat := if t = 3 then (if key1 k then 0 else 2) else t
def big (i : Int) : Bool := decide (i.natAbs < 2 ^ 64)
def small (n : Nat) : Bool := decide (n ≤ 10000)
def int1 (i : Int) (s : Sto) : R Vl := .ok (.w (.d (.int i))) s
def bl1 (b : Bool) (s : Sto) : R Vl := .ok (.w (.d (.bl b))) s
def d1 (d : D) (s : Sto) : R Vl := .ok (.w (.d d)) s
def addS (x y : W) (s : Sto) : R Vl := match x, y with
  | .d (.int i), .d (.int j) => int1 (i + j) s
  | .d (.str x), .d (.str y) => if small x.length && small y.length then d1 (.str (x ++ y)) s else .no
  | .d (.tup x), .d (.tup y) => if small x.length && small y.length then d1 (.tup (x ++ y)) s else .no
  | x, y => match lstM s x, lstM s y with
    | some a, some b => if small a.length && small b.length then .ok (.fl (a ++ b)) s else .no
    | _, _ => .no
def mulS (x y : W) (s : Sto) : R Vl := match x, y with
  | .d (.int i), .d (.int j) => if big i || big j then int1 (i * j) s else .no
  | .d (.tup x), .d (.int j) => if x ≠ [] ∧ x.length ≤ 1000 ∧ 2 ≤ j ∧ j ≤ 1000 then d1 (.tup (List.replicate j.toNat x).flatten) s else .no
  | x, .d (.int j) => match lstM s x with
    | some a => if small a.length && decide (0 ≤ j) && decide (j ≤ 1000) then .ok (.fl (List.replicate j.toNat a).flatten) s else .no
    | none => .no
  | _, _ => .no
def int2 (f : Int → Int → Option D) (x y : W) (s : Sto) : R Vl := match x, y with
  | .d (.int i), .d (.int j) => (R.of (f i j) s).bind d1
  | _, _ => .no
def eqS (neg : Bool) (x y : W) (s : Sto) : R Vl := match datOf s x, datOf s y with
  | some a, some b => (R.of (if neg then pyEq a b else pyEqO a b) s).bind fun r s => bl1 (if neg then !r else r) s
  | _, _ => .no
def inSq (neg : Bool) (x y : W) (s : Sto) : R Vl := match x, seqOf s y with
  | .d a, some ds => (R.of (pyIn a ds) s).bind fun r s => bl1 (if neg then !r else r) s
  | _, _ => .no
def inDc (neg : Bool) (x y : W) (s : Sto) : R Vl := match x, dctOf s y with
  | .d a, some (t, ks, _) => if keysOk t a then bl1 (if neg then !decide (a ∈ ks) else decide (a ∈ ks)) s else .no
  | _, _ => .no
def inTx (neg : Bool) (x y : W) (s : Sto) : R Vl := match x, y with
  | .d (.str x), .d (.str y) => match x.cps.toList with
    | [c] => bl1 (if neg then !decide (c ∈ y.cps.toList) else decide (c ∈ y.cps.toList)) s
    | _ => .no
  | _, _ => .no
def isNS (neg : Bool) (x y : W) (s : Sto) : R Vl := match y with
  | .d .non => bl1 (if neg then !decide (x = .d .non) else decide (x = .d .non)) s
  | _ => .no
def isBS (neg : Bool) (x y : W) (s : Sto) : R Vl := match x, y with
  | .d (.bl a), .d (.bl b) => bl1 (if neg then !decide (a = b) else decide (a = b)) s
  | _, _ => .no
def ixS (x y : W) (s : Sto) : R Vl := match x, y with
  | .d (.str z), .d (.int i) => if small z.length then (R.of (atI z.cps.toList i) s).bind fun c s => d1 (.str ⟨#[c]⟩) s else .no
  | x, .d (.int i) => match seqOf s x with
    | some ds => (R.of (atI ds i) s).bind d1
    | none => .no
  | _, _ => .no
def dgetS (x y : W) (s : Sto) : R Vl := match dctOf s x, y with
  | some (t, ks, vs), .d k => if keysOk t k then (R.of (look k ks vs) s).bind d1 else .no
  | _, _ => .no
def lenS (x : W) (s : Sto) : R Vl := match x with
  | .d (.str z) => if small z.length then int1 z.length s else .no
  | x => match seqOf s x with
    | some ds => int1 ds.length s
    | none => .no
def lenDS (x : W) (s : Sto) : R Vl := match dctOf s x with
  | some (_, ks, _) => int1 ks.length s
  | none => .no
/-- < of numbers, of tuples of such -/
def ltS (x y : W) (s : Sto) : R Vl := match x, y with
  | .d (.int i), .d (.int j) => bl1 (decide (i < j)) s
  | .d (.tup a), .d (.tup b) => if Ds.al 7 a b && Ds.kn 7 a && Ds.kn 7 b then (R.of (Ds.lt a b) s).bind bl1 else .no
  | _, _ => .no
def absS (x : W) (s : Sto) : R Vl := match x with
  | .d (.int i) => int1 (if i < 0 then -i else i) s
  | _ => .no
def negS (x : W) (s : Sto) : R Vl := match x with
  | .d (.int i) => int1 (-i) s
  | _ => .no
def intS (x : W) (s : Sto) : R Vl := match x with
  | .d (.bl b) => int1 (if b then 1 else 0) s
  | .d (.int i) => int1 i s
  | _ => .no
def sumS (x : W) (s : Sto) : R Vl := match seqOf s x with
  | some ds => (R.of (dInts ds) s).bind fun r s => int1 r.sum s
  | none => .no
def maxS (x : W) (s : Sto) : R Vl := match lstOf s x with
  | some ds => match dInts ds with
    | some (n :: ns) => int1 (ns.foldl max n) s
    | _ => .no
  | none => .no
def minS (x : W) (s : Sto) : R Vl := match lstOf s x with
  | some ds => match dInts ds with
    | some (n :: ns) => int1 (ns.foldl min n) s
    | _ => .no
  | none => .no
def ins1 (i : Int) : List Int → List Int
  | [] => [i]
  | j :: r => if i ≤ j then i :: j :: r else j :: ins1 i r
def isort (ns : List Int) : List Int := ns.foldr ins1 []
def leD (a b : D) : Bool := !(D.lt b a == some true)
def isTupD : D → Bool
  | .tup _ => true
  | _ => false
def isTupNe : D → Bool
  | .tup (_ :: _) => true
  | _ => false
/-- an empty tuple first, or none is empty -/
def tupsK : List D → Bool
  | .tup [] :: _ => true
  | ds => ds.all isTupNe
/-- tuples that may be held against one another -/
def tupsOk (ds : List D) : Bool := tupsK ds && (ds.all (fun a => isTupD a && D.kn 8 a && ds.all fun b => D.al 8 a b && (D.lt a b).isSome) && small ds.length)
/-- sorted, of numbers, of tuples -/
def sortedS (x : W) (s : Sto) : R Vl := match lstOf s x with
  | some ds => match dInts ds with
    | some ns => .ok (.fl ((isort ns).map .int)) s
    | none => if tupsOk ds then .ok (.fl (ds.mergeSort leD)) s else .no
  | none => .no
def isTupS (x : W) (s : Sto) : R Vl := match x with
  | .d (.tup _) => bl1 true s
  | .d (.int _) => bl1 false s
  | _ => .no
def isClsS (c : Nat) (x : W) (s : Sto) : R Vl := match x with
  | .d (.obj k _ _) => bl1 (decide (k = c)) s
  | .d (.str _) => bl1 false s
  | .d .non => bl1 false s
  | .d (.tup _) => bl1 false s
  | _ => .no
def listS (x : W) (s : Sto) : R Vl := match seqOf s x with
  | some ds => .ok (.fl ds) s
  | none => .no
def tupleS (x : W) (s : Sto) : R Vl := match x with
  | .d (.tup ds) => d1 (.tup ds) s
  | x => match lstOf s x with
    | some ds => d1 (.tup ds) s
    | none => .no
def revS (tp : Bool) (x : W) (s : Sto) : R Vl := match lstOf s x with
  | some ds => if tp then d1 (.tup ds.reverse) s else .ok (.fl ds.reverse) s
  | none => .no
def allS (al : Bool) (x : W) (s : Sto) : R Vl := match lstOf s x with
  | some ds => (R.of (bls ds) s).bind fun r s => bl1 (if al then r.all id else r.any id) s
  | none => .no
def appS (x y : W) (s : Sto) : R Vl := match x, y with
  | .loc l, .d d => match s[l]? with
    | some (.lst ds) => if small ds.length then d1 .non (s.set l (.lst (ds ++ [d]))) else .no
    | _ => .no
  | _, _ => .no
def popS (x : W) (s : Sto) : R Vl := match x with
  | .loc l => match s[l]? with
    | some (.lst ds) => (R.of ds.getLast? s).bind fun d s => d1 d (s.set l (.lst ds.dropLast))
    | _ => .no
  | _ => .no
def extS (x y : W) (s : Sto) : R Vl := match x, lstM s y with
  | .loc l, some es => match s[l]? with
    | some (.lst ds) => if small ds.length && small es.length then d1 .non (s.set l (.lst (ds ++ es))) else .no
    | _ => .no
  | _, _ => .no
def indexS (x y : W) (s : Sto) : R Vl := match lstOf s x, y with
  | some ds, .d d => if (pyIn d ds).isSome && decide (d ∈ ds) && ((flat d && ds.all flat) || (D.ns d && Ds.ns ds)) then int1 (ds.idxOf d) s else .no
  | _, _ => .no
def countS (x y : W) (s : Sto) : R Vl := match lstOf s x, y with
  | some ds, .d d => if (pyIn d ds).isSome && flat d && ds.all flat then int1 (ds.countP fun z => decide (z = d)) s else .no
  | _, _ => .no
/-- is the thing of the type whose method is meant -/
def recvOk (o : Op) (x : W) (s : Sto) : Bool := match o with
  | .append | .pop | .index | .extend | .count => (lstOf s x).isSome
  | _ => false
def opSem (o : Op) (ws : List W) (s : Sto) : R Vl := match ws with
  | [x] => match o with
    | .neg => negS x s
    | .len => lenS x s
    | .lenD => lenDS x s
    | .abs => absS x s
    | .int => intS x s
    | .sum => sumS x s
    | .max1 => maxS x s
    | .min1 => minS x s
    | .sorted => sortedS x s
    | .isTup => isTupS x s
    | .isCls c => isClsS c x s
    | .list => listS x s
    | .tuple => tupleS x s
    | .listRev => revS false x s
    | .tupleRev => revS true x s
    | .all => allS true x s
    | .any => allS false x s
    | .pop => popS x s
    | _ => .no
  | [x, y] => match o with
    | .add => addS x y s
    | .sub => int2 (fun i j => some (.int (i - j))) x y s
    | .mul => mulS x y s
    | .fdiv => int2 (fun i j => if 0 < j ∧ j < 1073741824 then some (.int (i / j)) else none) x y s
    | .mod => int2 (fun i j => if 0 < j then some (.int (i % j)) else none) x y s
    | .pow => int2 (fun i j => if 0 ≤ j ∧ j ≤ 1000 ∧ big i = true then some (.int (i ^ j.toNat)) else none) x y s
    | .eq => eqS false x y s
    | .ne => eqS true x y s
    | .lt => ltS x y s
    | .le => int2 (fun i j => some (.bl (decide (i ≤ j)))) x y s
    | .gt => int2 (fun i j => some (.bl (decide (j < i)))) x y s
    | .ge => int2 (fun i j => some (.bl (decide (j ≤ i)))) x y s
    | .isN => isNS false x y s
    | .notN => isNS true x y s
    | .isB => isBS false x y s
    | .notB => isBS true x y s
    | .inS => inSq false x y s
    | .ninS => inSq true x y s
    | .inD => inDc false x y s
    | .ninD => inDc true x y s
    | .inT => inTx false x y s
    | .ninT => inTx true x y s
    | .ix => ixS x y s
    | .dget => dgetS x y s
    | .max2 => int2 (fun i j => some (.int (if j > i then j else i))) x y s
    | .min2 => int2 (fun i j => some (.int (if j < i then j else i))) x y s
    | .divmod => int2 (fun i j => if 0 < j ∧ j < 1073741824 then some (.tup [.int (i / j), .int (i % j)]) else none) x y s
    | .append => appS x y s
    | .extend => extS x y s
    | .index => indexS x y s
    | .count => countS x y s
    | _ => .no
  | _ => .no
/-- the operators of a chain of comparisons -/
def coSem (o : Op) (x y : W) : Option Bool := match o, x, y with
  | .lt, .d (.int i), .d (.int j) => some (decide (i < j))
  | .le, .d (.int i), .d (.int j) => some (decide (i ≤ j))
  | _, _, _ => none
def asB : W → Option Bool
  | .d (.bl b) => some b
  | _ => none
def asD : W → Option D
  | .d x => some x
  | _ => none
def asI : W → Option Int
  | .d (.int i) => some i
  | _ => none
def asDs : List W → Option (List D)
  | [] => some []
  | .d x :: r => (asDs r).map (x :: ·)
  | _ => none
def killE (ks : List Nat) (e : Env) : Env := ks.foldl (fun e i => e.set i none) e
def setAll : List Nat → List D → Env → Env
  | i :: is, d :: ds, e => setAll is ds (e.set i (some (.d d)))
  | _, _, e => e
/-- target = value -/
def tgSem (tg : Tg) (w : W) (e : Env) : Option Env := match tg with
  | .nm i => some (e.set i (some w))
  | .tp is => match tupOf w with
    | some ds => if is.length = ds.length then some (setAll is ds e) else none
    | none => none
/-- the things that are walked, and where they stand, if that may change -/
abbrev Its := List D × Option Nat
def still (g : Its) (s : Sto) : Bool := match g.2 with
  | none => true
  | some l => match s[l]? with
    | some (.lst ds) => decide (ds = g.1)
    | _ => false
def enumD : Nat → List D → List D
  | _, [] => []
  | n, d :: ds => .tup [.int n, d] :: enumD (n + 1) ds
def walkOf (s : Sto) (w : W) : Option Its := match w with
  | .d (.lst ds) => some (ds, none)
  | .d (.rol ds) => some (ds, none)
  | .d (.tup ds) => some (ds, none)
  | .loc l => match s[l]? with
    | some (.lst ds) => some (ds, some l)
    | _ => none
  | _ => none
def rngD (i j : Int) : List D := (List.range (j - i).toNat).map fun (k : Nat) => .int (i + (k : Int))
def okR (i : Int) : Bool := decide (-(2 ^ 62) ≤ i) && decide (i < 2 ^ 62)

/-! ### a program -/
structure Fn where
  np : Nat
  ns : Nat
  /-- what is given back stays open to change -/
  kp : Bool
  body : Ss
structure Prog where
  fns : List Fn
  /-- class, method, def -/
  meths : List (Nat × Nat × Nat)
  /-- class, its __init__ -/
  inits : List (Nat × Nat)
  /-- classes of errors: the word for each -/
  words : List (Nat × Str)
def Prog.meth (P : Prog) (c m : Nat) : Option Nat := (P.meths.find? fun t => t.1 == c && t.2.1 == m).map (·.2.2)
def Prog.init (P : Prog) (c : Nat) : Option Nat := P.inits.lookup c
abbrev Fun := Nat → List W → Sto → R W
structure Cxt where
  P : Prog
  /-- what a def does, so many calls deeper -/
  F : Nat → Fun
def Cxt.down (c : Cxt) : Cxt := ⟨c.P, fun i => c.F (i + 2)⟩

/-- the loop of a list comprehension; its list stands at n -/
def lcL (f : D → Sto → R (Option D)) (g : Its) (n : Nat) : List D → Sto → R Unit
  | [], s => if still g s then .ok () s else .no
  | x :: xs, s => if still g s then (f x s).bind fun o s' => match o with
    | some y => match s'[n]? with
      | some (.lst acc) => if small acc.length then lcL f g n xs (s'.set n (.lst (acc ++ [y]))) else .no
      | _ => .no
    | none => lcL f g n xs s' else .no
/-- one turn of it -/
def lcF (tg : Tg) (t : Env → Sto → R Bool) (x : Env → Sto → R W) (e : Env) (d : D) (s : Sto) : R (Option D) := match tgSem tg (.d d) e with
  | some e' => ((t e' s).bind fun b s => if b then (x e' s).bind fun w s => (R.of (asD w) s).bind fun y s => .ok (some y) s else .ok none s).calm
  | none => .no
/-- one turn of a for -/
def forF (tg : Tg) (kill : List Nat) (b : Env → Sto → R (Fl × Env)) (x : D) (e : Env) (s : Sto) : R (Fl × Env) := match tgSem tg (.d x) e with
  | some e' => (b e' s).bind fun r s => .ok (r.1, killE kill r.2) s
  | none => .no
def whlF (kill : List Nat) (b : Env → Sto → R (Fl × Env)) (e : Env) (s : Sto) : R (Fl × Env) := (b e s).bind fun r s => .ok (r.1, killE kill r.2) s
/-- the loop of a for -/
def forL (f : D → Env → Sto → R (Fl × Env)) (g : Its) : List D → Env → Sto → R (Fl × Env)
  | [], e, s => if still g s then .ok (.nx, e) s else .no
  | x :: xs, e, s => if still g s then (f x e s).bind fun r s' => match r.1 with
    | .nx => forL f g xs r.2 s'
    | .cnt => forL f g xs r.2 s'
    | .brk => .ok (.nx, r.2) s'
    | .ret w => .ok (.ret w, r.2) s' else .no
def whlL (c : Env → Sto → R W) (f : Env → Sto → R (Fl × Env)) : Nat → Env → Sto → R (Fl × Env)
  | 0, _, _ => .no
  | n + 1, e, s => (c e s).bind fun w s1 => match asB w with
    | some true => (f e s1).bind fun r s' => match r.1 with
      | .nx => whlL c f n r.2 s'
      | .cnt => whlL c f n r.2 s'
      | .brk => .ok (.nx, r.2) s'
      | .ret w => .ok (.ret w, r.2) s'
    | some false => .ok (.nx, e) s1
    | none => .no
/-- what a call leaves: the callee's own things are gone, but one that is given back to be changed -/
def leave (kp : Bool) (n : Nat) (w : W) (s : Sto) : R W := match w with
  | .d x => .ok (.d x) (s.take n)
  | .loc l => if l < n then .ok (.loc l) (s.take n) else match s[l]? with
    | some (.lst ds) => if kp then .ok (.loc n) (s.take n ++ [.lst ds]) else .ok (.d (.lst ds)) (s.take n)
    | some (.dct t ks vs) => if kp then .ok (.loc n) (s.take n ++ [.dct t ks vs]) else .ok (.d (.dct t ks vs)) (s.take n)
    | some (.obj c ks vs) => if kp then .ok (.loc n) (s.take n ++ [.obj c ks vs]) else .ok (.d (.obj c ks vs)) (s.take n)
    | _ => .no
/-- a thing of the store frozen; the last one leaves the store -/
def freeze (s : Sto) (l : Nat) : Option (D × Sto) := match s[l]? with
  | some (.lst ds) => some (.lst ds, if l + 1 = s.length then s.dropLast else s.set l .dead)
  | some (.dct t ks vs) => some (.dct t ks vs, if l + 1 = s.length then s.dropLast else s.set l .dead)
  | some (.obj c ks vs) => some (.obj c ks vs, if l + 1 = s.length then s.dropLast else s.set l .dead)
  | _ => none
/-- what a list comprehension leaves -/
def finC (fz : Bool) (n : Nat) (s : Sto) : R W :=
  if fz then (if s.length = n + 1 then (match s[n]? with
    | some (.lst ds) => .ok (.d (.lst ds)) s.dropLast
    | _ => .no) else .no) else .ok (.loc n) s
def unName (l : Nat) (e : Env) : Env := e.map fun w => if w = some (.loc l) then none else w

mutual
def evE (c : Cxt) : E → Env → Sto → R W
  | .v i, e, s => match e[i]? with
    | some (some w) => .ok w s
    | _ => .no
  | .k d, _, s => .ok (.d d) s
  | .g _ d, _, s => .ok (.d d) s
  | .op fz o es, e, s => (evEs c es e s).bind fun ws s => (opSem o ws s).bind fun v s => fin fz v s
  | .bm fz o a es, e, s => (evE c a e s).bind fun x s => if recvOk o x s then (evEs c es e s).bind fun ws s => (opSem o (x :: ws) s).bind fun v s => fin fz v s else .no
  | .chain o o' a b d, e, s => (evE c a e s).bind fun x s => (evE c b e s).bind fun y s => match coSem o x y with
    | some true => (evE c d e s).bind fun z s => (R.of (coSem o' y z) s).bind fun r s => .ok (.d (.bl r)) s
    | some false => .ok (.d (.bl false)) s
    | none => .no
  | .bop a es, e, s => evB c a es e s
  | .not a, e, s => (evE c a e s).bind fun x s => (R.of (asB x) s).bind fun r s => .ok (.d (.bl (!r))) s
  | .ife t a b, e, s => (evE c t e s).bind fun x s => match asB x with
    | some true => evE c a e s
    | some false => evE c b e s
    | none => .no
  | .tup es, e, s => (evEs c es e s).bind fun ws s => (R.of (asDs ws) s).bind fun ds s => .ok (.d (.tup ds)) s
  | .lst fz es, e, s => (evEs c es e s).bind fun ws s => (R.of (asDs ws) s).bind fun ds s => fin fz (.fl ds) s
  | .dic fz t, _, s => fin fz (.fd t) s
  | .slc fz a lo hi, e, s => (evE c a e s).bind fun x s => (evO c lo e s).bind fun l s => (evO c hi e s).bind fun h s => match x with
    | .d (.tup ds) => .ok (.d (.tup (cut ds l h))) s
    | .d (.str z) => if small z.length then .ok (.d (.str ⟨(cut z.cps.toList l h).toArray⟩)) s else .no
    | _ => match lstM s x with
      | some ds => fin fz (.fl (cut ds l h)) s
      | none => .no
  | .rev fz a, e, s => (evE c a e s).bind fun x s => match x with
    | .d (.tup ds) => .ok (.d (.tup ds.reverse)) s
    | _ => match lstM s x with
      | some ds => fin fz (.fl ds.reverse) s
      | none => .no
  | .attr a f, e, s => (evE c a e s).bind fun x s => match objOf s x with
    | some (_, ks, vs) => (R.of (look f ks vs) s).bind fun r s => .ok (.d r) s
    | none => .no
  | .call f es, e, s => (evEs c es e s).bind fun ws s => c.F 0 f ws s
  | .meth a m es, e, s => (evE c a e s).bind fun x s => match objOf s x with
    | some (cl, _, _) => match c.P.meth cl m with
      | some f => (evEs c es e s).bind fun ws s => c.F 0 f (x :: ws) s
      | none => .no
    | none => .no
  | .new fz cl es, e, s => match c.P.init cl with
    | some f => (evEs c es e s).bind fun ws s => (c.F 1 f (.loc s.length :: ws) (s ++ [.obj cl [] []])).bind fun w s' => match w with
      | .d .non => if fz then (if s'.length = s.length + 1 then (match s'[s.length]? with
          | some (.obj c' ks vs) => .ok (.d (.obj c' ks vs)) s'.dropLast
          | _ => .no) else .no) else .ok (.loc s.length) s'
      | _ => .no
    | none => .no
  | .new0 cl, _, s => .ok (.d (.obj cl [] [])) s
  | .fz a, e, s => (evE c a e s).bind fun w s' => match w with
    | .d x => .ok (.d x) s'
    | .loc l => if s.length ≤ l ∧ l + 1 = s'.length then (match freeze s' l with
      | some (d, s'') => .ok (.d d) s''
      | none => .no) else .no
  | .lc fz own tg it ifs elt, e, s => (evI c it e s).bind fun g s =>
      (lcL (lcF tg (fun e s => evC c ifs e s) (fun e s => evE c elt e s) (killE own e)) g s.length g.1 (s ++ [.lst []])).bind fun _ s' => finC fz s.length s'
  | .ask a, e, s => match evE c.down a e s with
    | .ok w s => .ok w s
    | .err x s => (R.of (c.P.words.lookup x) s).bind fun z s => .ok (.d (.str z)) s
    | .no => .no
def evEs (c : Cxt) : Es → Env → Sto → R (List W)
  | .nil, _, s => .ok [] s
  | .cons a r, e, s => (evE c a e s).bind fun w s => (evEs c r e s).bind fun ws s => .ok (w :: ws) s
/-- and, or -/
def evB (c : Cxt) : Bool → Es → Env → Sto → R W
  | _, .nil, _, _ => .no
  | _, .cons a .nil, e, s => (evE c a e s).bind fun x s => (R.of (asB x) s).bind fun r s => .ok (.d (.bl r)) s
  | q, .cons a (.cons b r), e, s => (evE c a e s).bind fun x s => match asB x with
    | some t => if t = q then evB c q (.cons b r) e s else .ok (.d (.bl t)) s
    | none => .no
/-- a slice's part -/
def evO (c : Cxt) : Es → Env → Sto → R (Option Int)
  | .nil, _, s => .ok none s
  | .cons a _, e, s => (evE c a e s).bind fun x s => (R.of (asI x) s).bind fun r s => .ok (some r) s
/-- a comprehension's test -/
def evC (c : Cxt) : Es → Env → Sto → R Bool
  | .nil, _, s => .ok true s
  | .cons a _, e, s => (evE c a e s).bind fun x s => R.of (asB x) s
def evI (c : Cxt) : It → Env → Sto → R Its
  | .seq a, e, s => (evE c a e s).bind fun x s => R.of (walkOf s x) s
  | .txt a, e, s => (evE c a e s).bind fun x s => match x with
    | .d (.str z) => .ok (z.cps.toList.map fun c => .str ⟨#[c]⟩, none) s
    | _ => .no
  | .rng1 a, e, s => (evE c a e s).bind fun x s => match asI x with
    | some j => if okR j then .ok (rngD 0 j, none) s else .no
    | none => .no
  | .rng2 a b, e, s => (evE c a e s).bind fun x s => (evE c b e s).bind fun y s => match asI x, asI y with
    | some i, some j => if okR i && okR j then .ok (rngD i j, none) s else .no
    | _, _ => .no
  | .enm a, e, s => (evE c a e s).bind fun x s => match x with
    | .d (.lst ds) => .ok (enumD 0 ds, none) s
    | .d (.tup ds) => .ok (enumD 0 ds, none) s
    | _ => .no
  | .revs a, e, s => (evE c a e s).bind fun x s => match x with
    | .d (.lst ds) => .ok (ds.reverse, none) s
    | .d (.tup ds) => .ok (ds.reverse, none) s
    | _ => .no
  | .zip a b, e, s => (evE c a e s).bind fun x s => (evE c b e s).bind fun y s => match x, y with
    | .d p, .d q => match seqOf s (.d p), seqOf s (.d q) with
      | some ds, some es => .ok ((ds.zip es).map fun t => .tup [t.1, t.2], none) s
      | _, _ => .no
    | _, _ => .no
end
mutual
def evS (c : Cxt) (n : Nat) : S → Env → Sto → R (Fl × Env)
  | .asg tg a, e, s => (evE c a e s).bind fun w s => (R.of (tgSem tg w e) s).bind fun e' s => .ok (.nx, e') s
  | .par is es, e, s => (evEs c es e s).bind fun ws s => if is.length = ws.length then .ok (.nx, (is.zip ws).foldl (fun e p => e.set p.1 (some p.2)) e) s else .no
  | .sub o i a, e, s => (evE c a e s).bind fun w s => (evE c o e s).bind fun x s => (evE c i e s).bind fun y s => match x, asI y, asD w with
    | .loc l, some j, some d => match s[l]? with
      | some (.lst ds) => match ixOf ds.length j with
        | some k => .ok (.nx, e) (s.set l (.lst (ds.set k d)))
        | none => .no
      | _ => .no
    | _, _, _ => .no
  | .dput o i a, e, s => (evE c a e s).bind fun w s => (evE c o e s).bind fun x s => (evE c i e s).bind fun y s => match x, asD y, asD w with
    | .loc l, some k, some d => match s[l]? with
      | some (.dct t ks vs) => if keysOk t k && small ks.length then .ok (.nx, e) (s.set l (.dct (kindK t k) (putKs k ks) (putVs k d ks vs))) else .no
      | _ => .no
    | _, _, _ => .no
  | .fld o f a, e, s => (evE c a e s).bind fun w s => (evE c o e s).bind fun x s => match x, asD w with
    | .loc l, some d => match s[l]? with
      | some (.obj cl ks vs) => if ks.length < 900 then .ok (.nx, e) (s.set l (.obj cl (putKs f ks) (putN f d ks vs))) else .no
      | _ => .no
    | _, _ => .no
  | .ex a, e, s => (evE c a e s).bind fun _ s => .ok (.nx, e) s
  | .ret a, e, s => (evE c a e s).bind fun w s => .ok (.ret w, e) s
  | .retN, e, s => .ok (.ret (.d .non), e) s
  | .ite t a b, e, s => (evE c t e s).bind fun x s => match asB x with
    | some true => evSs c n a e s
    | some false => evSs c n b e s
    | none => .no
  | .for tg it kill body, e, s => (evI c it e s).bind fun g s => forL (forF tg kill fun e s' => evSs c s.length body e s') g g.1 e s
  | .whl m t kill body, e, s => whlL (fun e s => evE c t e s) (whlF kill fun e s' => evSs c s.length body e s') m e s
  | .raise x, _, s => .err x s
  | .try1 body x suite, e, s => match evSs c n body e s with
    | .ok r s => .ok r s
    | .err y s => if y = x then evSs c n suite (e.map fun _ => none) s else .no
    | .no => .no
  | .pass, e, s => .ok (.nx, e) s
  | .brk, e, s => .ok (.brk, e) s
  | .cnt, e, s => .ok (.cnt, e) s
  | .gfrz i, e, s => match e[i]? with
    | some (some (.loc l)) => if n ≤ l then match freeze s l with
      | some (d, s') => .ok (.nx, (unName l e).set i (some (.d d))) s'
      | none => .no else .no
    | _ => .no
  | .gdrop i, e, s => match e[i]? with
    | some (some (.loc l)) => if n ≤ l ∧ l + 1 = s.length then .ok (.nx, unName l e) s.dropLast else .no
    | _ => .no
def evSs (c : Cxt) (n : Nat) : Ss → Env → Sto → R (Fl × Env)
  | .nil, e, s => .ok (.nx, e) s
  | .cons a r, e, s => (evS c n a e s).bind fun q s => match q.1 with
    | .nx => evSs c n r q.2 s
    | _ => .ok q s
end
/-- a def called -/
def runFn (c : Cxt) (fn : Fn) (ws : List W) (s : Sto) : R W :=
  if ws.length = fn.np ∧ fn.np ≤ fn.ns then match evSs c s.length fn.body (ws.map some ++ List.replicate (fn.ns - fn.np) none) s with
    | .ok (.ret w, _) s' => leave fn.kp s.length w s'
    | .ok (.nx, _) s' => .ok (.d .non) (s'.take s.length)
    | .ok _ _ => .no
    | .err x s' => .err x (s'.take s.length)
    | .no => .no
  else .no
def runAll (P : Prog) (F : Nat → Fun) : Fun := fun f ws s => match P.fns[f]? with
  | some fn => runFn ⟨P, F⟩ fn ws s
  | none => .no
/-- what the defs do, so many calls deep; and the same of fewer -/
def PhiA (P : Prog) : Nat → Nat → Fun
  | 0, _ => fun _ _ _ => .no
  | k + 1, 0 => runAll P (PhiA P k)
  | k + 1, i + 1 => PhiA P k i
def Phi (P : Prog) (k : Nat) : Fun := PhiA P k 0
end TT

set_option maxRecDepth 100000
/-! What the head is asked: the definitions. -/
namespace TS
open PySem PySem.Spec PyProof.Rows L2
/-- the names of a program: its classes, attributes, methods, its errors -/
structure Nm where
  cs : List Str
  as : List Str
  ms : List Str
  es : List Str
/-- the name of a number; beyond the list a text that is no name -/
def nmAt (k : Nat) (l : List Str) (i : Nat) : Str := match l[i]? with
  | some x => x
  | none => ⟨#[k, i]⟩
def Nm.cn (N : Nm) (c : Nat) : Str := nmAt 2000001 N.cs c
def Nm.an (N : Nm) (c : Nat) : Str := nmAt 2000002 N.as c
def Nm.mn (N : Nm) (c : Nat) : Str := nmAt 2000003 N.ms c
def Nm.en (N : Nm) (c : Nat) : Str := nmAt 2000004 N.es c
/-- where the class of a number stands -/
def Nm.ca (N : Nm) (K : PySem.W.Frag) (c : Nat) : Addr := He.ga K (N.cn c)
def Nm.ea (N : Nm) (K : PySem.W.Frag) (c : Nat) : Addr := He.ga K (N.en c)
/-- the tables of a program -/
structure Sig where
  N : Nm
  P : TT.Prog
  ats : List (Str × Option Str)
  gl : List (Str × Nat)
  cls : List (Str × Nat)
  cons : List (Str × TT.D)
  blts : List Str
  asked : Str
/-- a def: its text, its names, whether lambdas stand in it -/
structure DefS where
  d : He.DefD
  N : List Str
  lam : Bool
def mk0B (K : PySem.W.Frag) (C : Addr) : Bool := PySem.W.makesIn K C && (decide (PySem.W.findIn K (.ref C) "__init__" = some (some (.builtin "object.__init__"))) && PySem.W.keepIn K (.ref C))
def isiB (N : Nm) (K : PySem.W.Frag) : Bool := decide (PySem.W.specialIn K (.builtin "object.__class__") "__get__" = some (some (.builtin "getset_descriptor.__get__"))) && (decide (PySem.W.takesIn K (.builtin "object.__class__") = some true) &&
  (List.range N.cs.length).all fun c => decide (PySem.W.findIn K (.ref (N.ca K c)) "__class__" = some (some (.builtin "object.__class__"))) && (decide (PySem.W.mroIn K (N.ca K c) (.type "object") = some true) && (decide (PySem.W.kitOne K (.type "str") (.ref (N.ca K c)) = some false) && (decide (PySem.W.kitOne K (.type "NoneType") (.ref (N.ca K c)) = some false) && (decide (PySem.W.kitOne K (.type "tuple") (.ref (N.ca K c)) = some false) &&
    (List.range N.cs.length).all fun k => decide (PySem.W.kitOne K (.ref (N.ca K k)) (.ref (N.ca K c)) = some (decide (k = c))))))))
def oeqB (K : PySem.W.Frag) (C : Addr) : Bool := decide (PySem.W.mroIn K C (.type "object") = some true) && (decide (PySem.W.findIn K (.ref C) "__eq__" = some (some (.builtin "object.__eq__"))) && decide (PySem.W.findIn K (.ref C) "__ne__" = some (some (.builtin "object.__ne__"))))
def Sig.fa (S : Sig) (K : PySem.W.Frag) (n : Nat) : Addr := match S.ats[n]? with
  | some p => He.fAd K p
  | none => 0
/-- classes without an __init__; the == of all -/
def nwB (S : Sig) (K : PySem.W.Frag) : Bool := (S.cls.all fun p => match S.P.init p.2 with
  | some _ => true
  | none => mk0B K (S.N.ca K p.2)) && (isiB S.N K && (List.range S.N.cs.length).all fun c => oeqB K (S.N.ca K c))
def lams (ds : List DefS) : List DefS := ds.filter (·.lam)
/-- where lambdas are made -/
def tfOf (ds : List DefS) : List He.Defn := (lams ds).map fun e => e.d.at_
def tabT (ds : List DefS) (K : PySem.W.Frag) : List (Addr × Str) := (lams ds).map fun e => ((He.cT K e.d.at_).2, e.d.qual ++ ".<locals>." ++ "<lambda>")
def exT (ds : List DefS) (K : PySem.W.Frag) : Bool := decide (((lams ds).map fun e => (He.cT K e.d.at_).2).Nodup)
def conF (p : Str × TT.D) : List He.Fa := match p.2 with
  | .int i => [.int p.1 i]
  | .str z => [.str p.1 z]
  | _ => []
def Sig.facts (S : Sig) : List He.Fa :=
  S.gl.map (fun p => .glo p.1) ++ (S.cls.map (fun p => .glo p.1) ++ (S.blts.map .free ++ (S.cons.flatMap conF ++ (S.N.cs.map .cls ++ (S.N.cs.flatMap (fun c => S.N.as.map fun f => .noat c f) ++ (S.P.inits.map (fun p => .mkr (S.N.cn p.1)) ++ (S.P.meths.map (fun t => .meth (S.N.cn t.1) (S.N.mn t.2.1)) ++
    (S.N.es.map .glo ++ S.N.es.map .exc))))))))
def excCB (K : PySem.W.Frag) (D : Addr) : Bool :=
  He.eqO (PySem.W.findIn K (.ref D) "__getattribute__") (some (some (.builtin "BaseException.__getattribute__"))) && (He.eqO (PySem.W.findIn K (.ref D) "__getattr__") (some none) && (decide (PySem.W.subIn K (.ref D) (.type "BaseException") = some true) && (PySem.W.hasDictIn K D &&
    (He.eqO (PySem.W.findIn K (.ref D) "__class__") (some (some (.builtin "object.__class__"))) && (He.eqO (PySem.W.specialIn K (.builtin "object.__class__") "__get__") (some (some (.builtin "getset_descriptor.__get__"))) && (decide (PySem.W.takesIn K (.builtin "object.__class__") = some true) && decide (PySem.W.mroIn K D (.type "object") = some true)))))))
def excsB (S : Sig) (hand : Str) (K : PySem.W.Frag) : Bool := S.P.words.all fun p => excCB K (S.N.ea K p.1) && ((S.P.words.all fun q => decide (PySem.W.kitOne K (.ref (S.N.ea K p.1)) (.ref (S.N.ea K q.1)) = some (decide (S.N.en q.1 = S.N.en p.1)))) &&
  (decide (PySem.W.kitOne K (.ref (S.N.ea K p.1)) (.type "ValueError") = some true) && decide (PySem.W.exmOne K (.ref (S.N.ea K p.1)) (.ref (He.ga K hand)) = some true)))
def bOf (S : Sig) (y : Nat) (cn : Str) : Bool := decide (cn = "ValueError") || decide (cn = S.N.en y)
end TS

set_option maxRecDepth 100000
/-! A head's Hook whose part of the heap is gathered with a mask; the run in parts. -/
namespace TS
open PySem PySem.Spec PyProof.Rows L2 He HandSHeadRun
/-- the new ones among some addresses: a mask holds the known ones -/
def newM : List Addr → Nat → List Addr → Nat × List Addr
  | [], m, acc => (m, acc)
  | a :: r, m, acc => match Nat.beq (Nat.land (Nat.shiftRight m a) 1) 1 with
    | true => newM r m acc
    | false => frNat (Nat.lor m (Nat.shiftLeft 1 a)) fun m => newM r m (a :: acc)
def bfsM (g : Addr → Option Obj) : Nat → List Addr → Nat → List Addr → List Addr
  | 0, _, _, acc => acc
  | n + 1, fr, m, acc => match newM (fr.flatMap fun a => match g a with
      | some o => refsD o
      | none => []) m [] with
    | (m, nw) => bfsM g n nw m (acc ++ nw)
/-- what the module's names reach in four steps -/
def selM (g : Addr → Option Obj) : List Addr := frNat (Nat.shiftLeft 1 mainGlobals) fun m => bfsM g 4 [mainGlobals] m [mainGlobals]
abbrev KM (g : Addr → Option Obj) : PySem.W.Frag := frT g (selM g)
def obsM (fa : List Fa) (fn : List DefD) (tf : List Defn) (ex : PySem.W.Frag → Bool) (g : Addr → Option Obj) : AlX :=
  (((((fa.all fun f => f.ok (KM g)) && fn.all fun d => d.ok (KM g)), fn.map fun d => fnW (KM g) d.at_), []), ex (KM g) && tabsB g tf (KM g))
theorem saysM_of {fa : List Fa} {fn : List DefD} {tf : List Defn} {ex : PySem.W.Frag → Bool} {w : World} {h : Heap} (e : obsM fa fn tf ex h.get? = valX fn [] w) : SaysX fa fn [] tf ex w h (KM h.get?) := by
  have e1 : obsT fa fn [] (KM h.get?) = valT fn [] w := congrArg (fun z : AlX => z.1) e
  have e2 : (ex (KM h.get?) && tabsB h.get? tf (KM h.get?)) = true := congrArg (fun z : AlX => z.2) e
  obtain ⟨h1, h2⟩ := ba e2
  have key : ∀ p ∈ tf, PySem.W.codeHdIn (KM h.get?) (cT (KM h.get?) p).1 (cT (KM h.get?) p).2 = true ∧ ∃ o, h.get? (cT (KM h.get?) p).2 = some o ∧ emptyTab o = true := by
    intro p hp
    obtain ⟨a, b⟩ := ba (List.all_eq_true.mp h2 p hp)
    refine ⟨a, ?_⟩
    split at b
    · exact ⟨_, by assumption, b⟩
    · cases b
  refine ⟨e1, h1, fun p hp => (key p hp).1, fun p hp => ?_, fun p hp => ?_⟩
  · obtain ⟨_, o, q, z⟩ := key p hp
    exact frT_none q z
  · obtain ⟨_, o, q, z⟩ := key p hp
    rw [q, emptyTab_eq z]
def hookM (fa : List Fa) (fn : List DefD) (tf : List Defn) (ex : PySem.W.Frag → Bool) : PySem.W.Hook where
  α := AlX
  obs := fun s => obsM fa fn tf ex s.heap.get?
  val := fun w => valX fn [] w
  says := fun w h => ∃ K : PySem.W.Frag, K.In h ∧ SaysX fa fn [] tf ex w h K
  of := fun _ _ e => ⟨_, frT_in, saysM_of e⟩
  keeps := fun _ _ _ ⟨K, hK, c⟩ k => ⟨K, PySem.W.Frag.In.keeps hK k, ⟨c.t, c.more, c.hd, c.out, fun p hp => k _ _ (c.empty p hp)⟩⟩
theorem obsM_eq {fa : List Fa} {fn : List DefD} {tf : List Defn} {ex : PySem.W.Frag → Bool} {g : Addr → Option Obj} {s : Shared} (h : ∀ a, g a = s.heap.get? a) : obsM fa fn tf ex g = (hookM fa fn tf ex).obs s := by
  have e : g = s.heap.get? := funext h
  rw [e] <;> rfl
theorem all_parts {α β : Type} {F : Option α} {f : β → α → Bool} {l : List β} (n : Nat) (h1 : F.map (fun s => (l.take n).all fun d => f d s) = some true) (h2 : F.map (fun s => (l.drop n).all fun d => f d s) = some true) : F.map (fun s => l.all fun d => f d s) = some true := by
  cases F with
  | none => cases h1
  | some s =>
    have a : ((l.take n).all fun d => f d s) = true := Option.some.inj h1
    have b : ((l.drop n).all fun d => f d s) = true := Option.some.inj h2
    show some (l.all fun d => f d s) = some true
    rw [← List.take_append_drop n l, List.all_append, a, b] <;> rfl
theorem map_parts {α β γ : Type} {F : Option α} {f : β → α → γ} {v : β → γ} {l : List β} (n : Nat) (h1 : F.map (fun s => (l.take n).map fun d => f d s) = some ((l.take n).map v)) (h2 : F.map (fun s => (l.drop n).map fun d => f d s) = some ((l.drop n).map v)) : F.map (fun s => l.map fun d => f d s) = some (l.map v) := by
  cases F with
  | none => cases h1
  | some s =>
    have a : ((l.take n).map fun d => f d s) = (l.take n).map v := Option.some.inj h1
    have b : ((l.drop n).map fun d => f d s) = (l.drop n).map v := Option.some.inj h2
    show some (l.map fun d => f d s) = some (l.map v)
    rw [← List.take_append_drop n l, List.map_append, List.map_append, a, b]
theorem run_parts {α β : Type} {F : Option α} {l : α → Bool} {q : α → β} {fa : List Fa} {fn : List DefD} {tf : List Defn} {ex : PySem.W.Frag → Bool} {g : α → Addr → Option Obj} {v : β} {w : World}
    (h1 : F.map l = some true) (h2 : F.map q = some v) (h3 : F.map (fun s => fa.all fun f => f.ok (KM (g s))) = some true) (h4 : F.map (fun s => fn.all fun d => d.ok (KM (g s))) = some true)
    (h5 : F.map (fun s => fn.map fun d => fnW (KM (g s)) d.at_) = some (fn.map DefD.val)) (h6 : F.map (fun s => ex (KM (g s))) = some true) (h7 : F.map (fun s => tabsB (g s) tf (KM (g s))) = some true) :
    F.map (fun s => (l s, q s, obsM fa fn tf ex (g s))) = some (true, v, valX fn [] w) := by
  cases F with
  | none => cases h1
  | some s =>
    have e1 : l s = true := Option.some.inj h1
    have e2 : q s = v := Option.some.inj h2
    have e3 : (fa.all fun f => f.ok (KM (g s))) = true := Option.some.inj h3
    have e4 : (fn.all fun d => d.ok (KM (g s))) = true := Option.some.inj h4
    have e5 : (fn.map fun d => fnW (KM (g s)) d.at_) = fn.map DefD.val := Option.some.inj h5
    have e6 : ex (KM (g s)) = true := Option.some.inj h6
    have e7 : tabsB (g s) tf (KM (g s)) = true := Option.some.inj h7
    show some (l s, q s, obsM fa fn tf ex (g s)) = _
    unfold obsM
    rw [e1, e2, e3, e4, e5, e6, e7] <;> rfl
def obM (fa : List Fa) (fn : List DefD) (tf : List Defn) (ex : PySem.W.Frag → Bool) (s : PySem.W.SharedT) : AlX := obsM fa fn tf ex (getT s)
theorem obM_eq {fa : List Fa} {fn : List DefD} {tf : List Defn} {ex : PySem.W.Frag → Bool} (s : PySem.W.SharedT) : obM fa fn tf ex s = (hookM fa fn tf ex).obs s.abs := obsM_eq (getT_eq s)
section
open PySem.W PySem.Calls
/-- where the module's run ends -/
noncomputable def endT (r : OpenRow) (M : Nat) (w : World) (os : OsState) : Option SharedT := endF (stepQ (denQ tabQ) r.prog w) M r.prog w os
theorem run_of {r : OpenRow} {q : Program} {fa : List Fa} {fn : List DefD} {tf : List Defn} {ex : PySem.W.Frag → Bool} {M : Nat} {loose : List Str} {w : World}
    (h1 : ∀ os, (endT r M w os).map (fun s => looksF r.prog (boot_heap w.params) s.abs) = some true)
    (h2 : ∀ os, (endT r M w os).map (fun s => seenQ q loose (importedModules r.prog.main.body) (fun s => xlAt q [] s && recOk r.toRowW.records s) s.abs) = some (openGood q loose))
    (h3 : ∀ os, (endT r M w os).map (fun s => fa.all fun f => f.ok (KM (getT s))) = some true) (h4 : ∀ os, (endT r M w os).map (fun s => fn.all fun d => d.ok (KM (getT s))) = some true)
    (h5 : ∀ os, (endT r M w os).map (fun s => fn.map fun d => fnW (KM (getT s)) d.at_) = some (fn.map DefD.val)) (h6 : ∀ os, (endT r M w os).map (fun s => ex (KM (getT s))) = some true)
    (h7 : ∀ os, (endT r M w os).map (fun s => tabsB (getT s) tf (KM (getT s))) = some true) : RunEq r q (hookM fa fn tf ex) (obM fa fn tf ex) M loose w :=
  fun os => by
    have z := run_parts (w := w) (F := endT r M w os) (g := getT) (h1 os) (h2 os) (h3 os) (h4 os) (h5 os) (h6 os) (h7 os)
    exact z
end
end TS

set_option maxHeartbeats 0
/-! plain law: tools to run the small language by hand -/
namespace TT
/-- a mark that keeps simp out of what it marks -/
inductive Mk {α : Type} (a : α) : Type where
  | mk
/-- bind, shut to simp behind the first part -/
def R.bnd {α β : Type} (r : R α) (f : α → Sto → R β) (_ : Mk f := .mk) : R β := r.bind f
@[simp] theorem R.bnd_ok {α β : Type} (a : α) (s : Sto) (f : α → Sto → R β) (m : Mk f) : (R.ok a s).bnd f m = f a s := (rfl)
@[simp] theorem R.bnd_err {α β : Type} (c : Nat) (s : Sto) (f : α → Sto → R β) (m : Mk f) : (R.err c s : R α).bnd f m = .err c s := (rfl)
@[simp] theorem R.bnd_no {α β : Type} (f : α → Sto → R β) (m : Mk f) : (R.no : R α).bnd f m = .no := (rfl)
noncomputable def shut {α : Type} (a : α) : {x : α // x = a} := Classical.choice ⟨⟨a, rfl⟩⟩
noncomputable def sm : Nat → Bool := (shut small).1
noncomputable def bg : Int → Bool := (shut big).1
noncomputable def okQ : Int → Bool := (shut okR).1
theorem sm_eq : small = sm := ((shut small).2).symm
theorem bg_eq : big = bg := ((shut big).2).symm
theorem okQ_eq : okR = okQ := ((shut okR).2).symm
@[simp] theorem sm_of {n : Nat} (h : n ≤ 10000) : sm n = true := by rw [← sm_eq]; simp [small, h]
@[simp] theorem bg_of {i : Int} (h1 : -18446744073709551616 < i) (h2 : i < 18446744073709551616) : bg i = true := by
  rw [← bg_eq]; unfold big; simp only [decide_eq_true_eq]; omega
@[simp] theorem okQ_of {i : Int} (h1 : -4611686018427387904 ≤ i) (h2 : i < 4611686018427387904) : okQ i = true := by
  rw [← okQ_eq]
  unfold okR
  simp only [Bool.and_eq_true, decide_eq_true_eq]
  constructor <;> simp <;> omega
/-- a for from here on -/
def forG (c : Cxt) (n : Nat) (tg : Tg) (kill : List Nat) (body : Ss) (g : Its) (xs : List D) (e : Env) (s : Sto) : R (Fl × Env) :=
  forL (forF tg kill fun e s' => evSs c n body e s') g xs e s
def whlG (c : Cxt) (n : Nat) (t : E) (kill : List Nat) (body : Ss) (m : Nat) (e : Env) (s : Sto) : R (Fl × Env) :=
  whlL (fun e s => evE c t e s) (whlF kill fun e s' => evSs c n body e s') m e s
def lcG (c : Cxt) (tg : Tg) (ifs : Es) (elt : E) (e : Env) (g : Its) (n : Nat) (xs : List D) (s : Sto) : R Unit :=
  lcL (lcF tg (fun e s => evC c ifs e s) (fun e s => evE c elt e s) e) g n xs s
/-- a thing of a class made -/
def newG (F : Fun) (f cl : Nat) (fz : Bool) (ws : List W) (s : Sto) : R W := (F f (.loc s.length :: ws) (s ++ [.obj cl [] []])).bnd fun w s' => match w with
  | .d .non => if fz then (if s'.length = s.length + 1 then (match s'[s.length]? with
      | some (.obj c' ks vs) => .ok (.d (.obj c' ks vs)) s'.dropLast
      | _ => .no) else .no) else .ok (.loc s.length) s'
  | _ => .no
theorem newG_ok {F : Fun} {f cl c' : Nat} {ws : List W} {s : Sto} {ks : List Nat} {vs : List D} (h : F f (.loc s.length :: ws) (s ++ [.obj cl [] []]) = .ok (.d .non) (s ++ [.obj c' ks vs])) : newG F f cl true ws s = .ok (.d (.obj c' ks vs)) s := by
  unfold newG
  rw [h]
  simp
theorem newG_mut {F : Fun} {f cl : Nat} {ws : List W} {s s' : Sto} (h : F f (.loc s.length :: ws) (s ++ [.obj cl [] []]) = .ok (.d .non) s') : newG F f cl false ws s = .ok (.loc s.length) s' := by
  unfold newG
  rw [h]
  simp
theorem newG_err {F : Fun} {f cl x : Nat} {fz : Bool} {ws : List W} {s : Sto} (h : F f (.loc s.length :: ws) (s ++ [.obj cl [] []]) = .err x s) : newG F f cl fz ws s = .err x s := by
  unfold newG
  rw [h]
  rfl
/-! ### the rules of one step -/
section
variable (c : Cxt) (n : Nat) (e : Env) (s : Sto)
@[simp] theorem x_v (i : Nat) : evE c (.v i) e s = (match e[i]? with | some (some w) => .ok w s | _ => .no) := by simp only [evE]; try exact (rfl)
@[simp] theorem x_k (d : D) : evE c (.k d) e s = .ok (.d d) s := by simp only [evE]; try exact (rfl)
@[simp] theorem x_g (x : Nat) (d : D) : evE c (.g x d) e s = .ok (.d d) s := by simp only [evE]; try exact (rfl)
@[simp] theorem x_op (fz : Bool) (o : Op) (es : Es) : evE c (.op fz o es) e s = (evEs c es e s).bnd fun ws s => (opSem o ws s).bnd fun v s => fin fz v s := by simp only [evE]; try exact (rfl)
@[simp] theorem x_bm (fz : Bool) (o : Op) (a : E) (es : Es) : evE c (.bm fz o a es) e s = (evE c a e s).bnd fun x s => if recvOk o x s then (evEs c es e s).bnd fun ws s => (opSem o (x :: ws) s).bnd fun v s => fin fz v s else .no := by simp only [evE]; try exact (rfl)
@[simp] theorem x_chain (o o' : Op) (a b d : E) : evE c (.chain o o' a b d) e s = (evE c a e s).bnd fun x s => (evE c b e s).bnd fun y s => match coSem o x y with
    | some true => (evE c d e s).bnd fun z s => (R.of (coSem o' y z) s).bnd fun r s => .ok (.d (.bl r)) s
    | some false => .ok (.d (.bl false)) s
    | none => .no := by simp only [evE]; try exact (rfl)
@[simp] theorem x_bop (a : Bool) (es : Es) : evE c (.bop a es) e s = evB c a es e s := by simp only [evE]; try exact (rfl)
@[simp] theorem x_not (a : E) : evE c (.not a) e s = (evE c a e s).bnd fun x s => (R.of (asB x) s).bnd fun r s => .ok (.d (.bl (!r))) s := by simp only [evE]; try exact (rfl)
@[simp] theorem x_ife (t a b : E) : evE c (.ife t a b) e s = (evE c t e s).bnd fun x s => match asB x with
    | some true => evE c a e s
    | some false => evE c b e s
    | none => .no := by simp only [evE]; try exact (rfl)
@[simp] theorem x_tup (es : Es) : evE c (.tup es) e s = (evEs c es e s).bnd fun ws s => (R.of (asDs ws) s).bnd fun ds s => .ok (.d (.tup ds)) s := by simp only [evE]; try exact (rfl)
@[simp] theorem x_lst (fz : Bool) (es : Es) : evE c (.lst fz es) e s = (evEs c es e s).bnd fun ws s => (R.of (asDs ws) s).bnd fun ds s => fin fz (.fl ds) s := by simp only [evE]; try exact (rfl)
@[simp] theorem x_dic (fz : Bool) (t : Nat) : evE c (.dic fz t) e s = fin fz (.fd t) s := by simp only [evE]; try exact (rfl)
@[simp] theorem x_slc (fz : Bool) (a : E) (lo hi : Es) : evE c (.slc fz a lo hi) e s = (evE c a e s).bnd fun x s => (evO c lo e s).bnd fun l s => (evO c hi e s).bnd fun h s => match x with
    | .d (.tup ds) => .ok (.d (.tup (cut ds l h))) s
    | .d (.str z) => if sm z.length then .ok (.d (.str ⟨(cut z.cps.toList l h).toArray⟩)) s else .no
    | _ => match lstM s x with
      | some ds => fin fz (.fl (cut ds l h)) s
      | none => .no := by rw [← sm_eq]; simp only [evE]; try exact (rfl)
@[simp] theorem x_rev (fz : Bool) (a : E) : evE c (.rev fz a) e s = (evE c a e s).bnd fun x s => match x with
    | .d (.tup ds) => .ok (.d (.tup ds.reverse)) s
    | _ => match lstM s x with
      | some ds => fin fz (.fl ds.reverse) s
      | none => .no := by simp only [evE]; try exact (rfl)
@[simp] theorem x_attr (a : E) (f : Nat) : evE c (.attr a f) e s = (evE c a e s).bnd fun x s => match objOf s x with
    | some (_, ks, vs) => (R.of (look f ks vs) s).bnd fun r s => .ok (.d r) s
    | none => .no := by simp only [evE]; try exact (rfl)
@[simp] theorem x_call (f : Nat) (es : Es) : evE c (.call f es) e s = (evEs c es e s).bnd fun ws s => c.F 0 f ws s := by simp only [evE]; try exact (rfl)
@[simp] theorem x_meth (a : E) (m : Nat) (es : Es) : evE c (.meth a m es) e s = (evE c a e s).bnd fun x s => match objOf s x with
    | some (cl, _, _) => match c.P.meth cl m with
      | some f => (evEs c es e s).bnd fun ws s => c.F 0 f (x :: ws) s
      | none => .no
    | none => .no := by simp only [evE]; try exact (rfl)
@[simp] theorem x_new (fz : Bool) (cl : Nat) (es : Es) : evE c (.new fz cl es) e s = (match c.P.init cl with
    | some f => (evEs c es e s).bnd fun ws s => newG (c.F 1) f cl fz ws s
    | none => .no) := by simp only [evE]; try exact (rfl)
@[simp] theorem x_new0 (cl : Nat) : evE c (.new0 cl) e s = .ok (.d (.obj cl [] [])) s := by simp only [evE]; try exact (rfl)
@[simp] theorem x_fz (a : E) : evE c (.fz a) e s = (evE c a e s).bnd fun w s' => match w with
    | .d x => .ok (.d x) s'
    | .loc l => if s.length ≤ l ∧ l + 1 = s'.length then (match freeze s' l with
      | some (d, s'') => .ok (.d d) s''
      | none => .no) else .no := by simp only [evE]; try exact (rfl)
@[simp] theorem x_lc (fz : Bool) (own : List Nat) (tg : Tg) (it : It) (ifs : Es) (elt : E) : evE c (.lc fz own tg it ifs elt) e s = (evI c it e s).bnd fun g s =>
      (lcG c tg ifs elt (killE own e) g s.length g.1 (s ++ [.lst []])).bnd fun _ s' => finC fz s.length s' := by simp only [evE]; try exact (rfl)
@[simp] theorem x_ask (a : E) : evE c (.ask a) e s = (match evE c.down a e s with
    | .ok w s => .ok w s
    | .err x s => (R.of (c.P.words.lookup x) s).bnd fun z s => .ok (.d (.str z)) s
    | .no => .no) := by simp only [evE]; try exact (rfl)
@[simp] theorem xs_nil : evEs c .nil e s = .ok [] s := by simp only [evEs]; try exact (rfl)
@[simp] theorem xs_cons (a : E) (r : Es) : evEs c (.cons a r) e s = (evE c a e s).bnd fun w s => (evEs c r e s).bnd fun ws s => .ok (w :: ws) s := by simp only [evEs]; try exact (rfl)
@[simp] theorem xb_one (q : Bool) (a : E) : evB c q (.cons a .nil) e s = (evE c a e s).bnd fun x s => (R.of (asB x) s).bnd fun r s => .ok (.d (.bl r)) s := by simp only [evB]; try exact (rfl)
@[simp] theorem xb_cons (q : Bool) (a b : E) (r : Es) : evB c q (.cons a (.cons b r)) e s = (evE c a e s).bnd fun x s => match asB x with
    | some t => if t = q then evB c q (.cons b r) e s else .ok (.d (.bl t)) s
    | none => .no := by simp only [evB]; try exact (rfl)
@[simp] theorem xo_nil : evO c .nil e s = .ok none s := by simp only [evO]; try exact (rfl)
@[simp] theorem xo_cons (a : E) (r : Es) : evO c (.cons a r) e s = (evE c a e s).bnd fun x s => (R.of (asI x) s).bnd fun r s => .ok (some r) s := by simp only [evO]; try exact (rfl)
@[simp] theorem xc_nil : evC c .nil e s = .ok true s := by simp only [evC]; try exact (rfl)
@[simp] theorem xc_cons (a : E) (r : Es) : evC c (.cons a r) e s = (evE c a e s).bnd fun x s => R.of (asB x) s := by simp only [evC]; try exact (rfl)
@[simp] theorem xi_seq (a : E) : evI c (.seq a) e s = (evE c a e s).bnd fun x s => R.of (walkOf s x) s := by simp only [evI]; try exact (rfl)
@[simp] theorem xi_txt (a : E) : evI c (.txt a) e s = (evE c a e s).bnd fun x s => match x with
    | .d (.str z) => .ok (z.cps.toList.map fun c => .str ⟨#[c]⟩, none) s
    | _ => .no := by simp only [evI]; try exact (rfl)
@[simp] theorem xi_rng1 (a : E) : evI c (.rng1 a) e s = (evE c a e s).bnd fun x s => match asI x with
    | some j => if okQ j then .ok (rngD 0 j, none) s else .no
    | none => .no := by rw [← okQ_eq]; simp only [evI]; try exact (rfl)
@[simp] theorem xi_rng2 (a b : E) : evI c (.rng2 a b) e s = (evE c a e s).bnd fun x s => (evE c b e s).bnd fun y s => match asI x, asI y with
    | some i, some j => if okQ i && okQ j then .ok (rngD i j, none) s else .no
    | _, _ => .no := by rw [← okQ_eq]; simp only [evI]; try exact (rfl)
@[simp] theorem xi_enm (a : E) : evI c (.enm a) e s = (evE c a e s).bnd fun x s => match x with
    | .d (.lst ds) => .ok (enumD 0 ds, none) s
    | .d (.tup ds) => .ok (enumD 0 ds, none) s
    | _ => .no := by simp only [evI]; try exact (rfl)
@[simp] theorem xi_revs (a : E) : evI c (.revs a) e s = (evE c a e s).bnd fun x s => match x with
    | .d (.lst ds) => .ok (ds.reverse, none) s
    | .d (.tup ds) => .ok (ds.reverse, none) s
    | _ => .no := by simp only [evI]; try exact (rfl)
@[simp] theorem xi_zip (a b : E) : evI c (.zip a b) e s = (evE c a e s).bnd fun x s => (evE c b e s).bnd fun y s => match x, y with
    | .d p, .d q => match seqOf s (.d p), seqOf s (.d q) with
      | some ds, some es => .ok ((ds.zip es).map fun t => .tup [t.1, t.2], none) s
      | _, _ => .no
    | _, _ => .no := by simp only [evI]; try exact (rfl)
@[simp] theorem s_asg (tg : Tg) (a : E) : evS c n (.asg tg a) e s = (evE c a e s).bnd fun w s => (R.of (tgSem tg w e) s).bnd fun e' s => .ok (.nx, e') s := by simp only [evS]; try exact (rfl)
@[simp] theorem s_par (is : List Nat) (es : Es) : evS c n (.par is es) e s = (evEs c es e s).bnd fun ws s => if is.length = ws.length then .ok (.nx, (is.zip ws).foldl (fun e p => e.set p.1 (some p.2)) e) s else .no := by simp only [evS]; try exact (rfl)
@[simp] theorem s_sub (o i a : E) : evS c n (.sub o i a) e s = (evE c a e s).bnd fun w s => (evE c o e s).bnd fun x s => (evE c i e s).bnd fun y s => match x, asI y, asD w with
    | .loc l, some j, some d => match s[l]? with
      | some (.lst ds) => match ixOf ds.length j with
        | some k => .ok (.nx, e) (s.set l (.lst (ds.set k d)))
        | none => .no
      | _ => .no
    | _, _, _ => .no := by simp only [evS]; try exact (rfl)
@[simp] theorem s_dput (o i a : E) : evS c n (.dput o i a) e s = (evE c a e s).bnd fun w s => (evE c o e s).bnd fun x s => (evE c i e s).bnd fun y s => match x, asD y, asD w with
    | .loc l, some k, some d => match s[l]? with
      | some (.dct t ks vs) => if keysOk t k && sm ks.length then .ok (.nx, e) (s.set l (.dct (kindK t k) (putKs k ks) (putVs k d ks vs))) else .no
      | _ => .no
    | _, _, _ => .no := by rw [← sm_eq]; simp only [evS]; try exact (rfl)
@[simp] theorem s_fld (o : E) (f : Nat) (a : E) : evS c n (.fld o f a) e s = (evE c a e s).bnd fun w s => (evE c o e s).bnd fun x s => match x, asD w with
    | .loc l, some d => match s[l]? with
      | some (.obj cl ks vs) => if ks.length < 900 then .ok (.nx, e) (s.set l (.obj cl (putKs f ks) (putN f d ks vs))) else .no
      | _ => .no
    | _, _ => .no := by simp only [evS]; try exact (rfl)
@[simp] theorem s_ex (a : E) : evS c n (.ex a) e s = (evE c a e s).bnd fun _ s => .ok (.nx, e) s := by simp only [evS]; try exact (rfl)
@[simp] theorem s_ret (a : E) : evS c n (.ret a) e s = (evE c a e s).bnd fun w s => .ok (.ret w, e) s := by simp only [evS]; try exact (rfl)
@[simp] theorem s_retN : evS c n .retN e s = .ok (.ret (.d .non), e) s := by simp only [evS]; try exact (rfl)
@[simp] theorem s_ite (t : E) (a b : Ss) : evS c n (.ite t a b) e s = (evE c t e s).bnd fun x s => match asB x with
    | some true => evSs c n a e s
    | some false => evSs c n b e s
    | none => .no := by simp only [evS]; try exact (rfl)
@[simp] theorem s_for (tg : Tg) (it : It) (kill : List Nat) (body : Ss) : evS c n (.for tg it kill body) e s = (evI c it e s).bnd fun g s => forG c s.length tg kill body g g.1 e s := by simp only [evS]; try exact (rfl)
@[simp] theorem s_whl (m : Nat) (t : E) (kill : List Nat) (body : Ss) : evS c n (.whl m t kill body) e s = whlG c s.length t kill body m e s := by simp only [evS]; try exact (rfl)
@[simp] theorem s_raise (x : Nat) : evS c n (.raise x) e s = .err x s := by simp only [evS]; try exact (rfl)
@[simp] theorem s_try (body : Ss) (x : Nat) (suite : Ss) : evS c n (.try1 body x suite) e s = (match evSs c n body e s with
    | .ok r s => .ok r s
    | .err y s => if y = x then evSs c n suite (e.map fun _ => none) s else .no
    | .no => .no) := by simp only [evS]; try exact (rfl)
@[simp] theorem s_pass : evS c n .pass e s = .ok (.nx, e) s := by simp only [evS]; try exact (rfl)
@[simp] theorem s_brk : evS c n .brk e s = .ok (.brk, e) s := by simp only [evS]; try exact (rfl)
@[simp] theorem s_cnt : evS c n .cnt e s = .ok (.cnt, e) s := by simp only [evS]; try exact (rfl)
@[simp] theorem s_gfrz (i : Nat) : evS c n (.gfrz i) e s = (match e[i]? with
    | some (some (.loc l)) => if n ≤ l then match freeze s l with
      | some (d, s') => .ok (.nx, (unName l e).set i (some (.d d))) s'
      | none => .no else .no
    | _ => .no) := by simp only [evS]; try exact (rfl)
@[simp] theorem s_gdrop (i : Nat) : evS c n (.gdrop i) e s = (match e[i]? with
    | some (some (.loc l)) => if n ≤ l ∧ l + 1 = s.length then .ok (.nx, unName l e) s.dropLast else .no
    | _ => .no) := by simp only [evS]; try exact (rfl)
@[simp] theorem ss_nil : evSs c n .nil e s = .ok (.nx, e) s := by simp only [evSs]; try exact (rfl)
@[simp] theorem ss_cons (a : S) (r : Ss) : evSs c n (.cons a r) e s = (evS c n a e s).bnd fun q s => match q.1 with
    | .nx => evSs c n r q.2 s
    | _ => .ok q s := by simp only [evSs]; try exact (rfl)
end
end TT
namespace TT
open PySem (Str)
/-! ### values and operators -/
section
variable (s : Sto)
@[simp] theorem asB_bl (b : Bool) : asB (.d (.bl b)) = some b := (rfl)
@[simp] theorem asI_int (i : Int) : asI (.d (.int i)) = some i := (rfl)
@[simp] theorem asD_d (d : D) : asD (.d d) = some d := (rfl)
@[simp] theorem asDs_nil : asDs [] = some [] := (rfl)
@[simp] theorem asDs_cons (d : D) (r : List W) : asDs (.d d :: r) = (asDs r).map (d :: ·) := (rfl)
@[simp] theorem fin_w (fz : Bool) (w : W) : fin fz (.w w) s = .ok w s := (rfl)
@[simp] theorem fin_fl_t (ds : List D) : fin true (.fl ds) s = .ok (.d (.lst ds)) s := (rfl)
@[simp] theorem fin_fl_f (ds : List D) : fin false (.fl ds) s = .ok (.loc s.length) (s ++ [.lst ds]) := (rfl)
@[simp] theorem fin_fd_t (t : Nat) : fin true (.fd t) s = .ok (.d (.dct t [] [])) s := (rfl)
@[simp] theorem fin_fd_f (t : Nat) : fin false (.fd t) s = .ok (.loc s.length) (s ++ [.dct t [] []]) := (rfl)
@[simp] theorem seqOf_lst (ds : List D) : seqOf s (.d (.lst ds)) = some ds := (rfl)
@[simp] theorem seqOf_rol (ds : List D) : seqOf s (.d (.rol ds)) = some ds := (rfl)
@[simp] theorem seqOf_tup (ds : List D) : seqOf s (.d (.tup ds)) = some ds := (rfl)
@[simp] theorem seqOf_loc (l : Nat) : seqOf s (.loc l) = (match s[l]? with | some (.lst ds) => some ds | _ => none) := (rfl)
@[simp] theorem lstOf_lst (ds : List D) : lstOf s (.d (.lst ds)) = some ds := (rfl)
@[simp] theorem lstOf_rol (ds : List D) : lstOf s (.d (.rol ds)) = some ds := (rfl)
@[simp] theorem lstOf_loc (l : Nat) : lstOf s (.loc l) = (match s[l]? with | some (.lst ds) => some ds | _ => none) := (rfl)
@[simp] theorem lstM_lst (ds : List D) : lstM s (.d (.lst ds)) = some ds := (rfl)
@[simp] theorem lstM_loc (l : Nat) : lstM s (.loc l) = (match s[l]? with | some (.lst ds) => some ds | _ => none) := (rfl)
@[simp] theorem lstM_tup (ds : List D) : lstM s (.d (.tup ds)) = none := (rfl)
@[simp] theorem tupOf_tup (ds : List D) : tupOf (.d (.tup ds)) = some ds := (rfl)
@[simp] theorem datOf_d (d : D) : datOf s (.d d) = some d := (rfl)
@[simp] theorem datOf_loc (l : Nat) : datOf s (.loc l) = (match s[l]? with | some (.lst ds) => some (.lst ds) | _ => none) := (rfl)
@[simp] theorem dctOf_d (t : Nat) (a b : List D) : dctOf s (.d (.dct t a b)) = some (t, a, b) := (rfl)
@[simp] theorem dctOf_loc (l : Nat) : dctOf s (.loc l) = (match s[l]? with | some (.dct t ks vs) => some (t, ks, vs) | _ => none) := (rfl)
@[simp] theorem objOf_d (c : Nat) (a : List Nat) (b : List D) : objOf s (.d (.obj c a b)) = some (c, a, b) := (rfl)
@[simp] theorem objOf_loc (l : Nat) : objOf s (.loc l) = (match s[l]? with | some (.obj c ks vs) => some (c, ks, vs) | _ => none) := (rfl)
@[simp] theorem walkOf_lst (ds : List D) : walkOf s (.d (.lst ds)) = some (ds, none) := (rfl)
@[simp] theorem walkOf_rol (ds : List D) : walkOf s (.d (.rol ds)) = some (ds, none) := (rfl)
@[simp] theorem walkOf_tup (ds : List D) : walkOf s (.d (.tup ds)) = some (ds, none) := (rfl)
@[simp] theorem walkOf_loc (l : Nat) : walkOf s (.loc l) = (match s[l]? with | some (.lst ds) => some (ds, some l) | _ => none) := (rfl)
@[simp] theorem look_hit {α β : Type} [DecidableEq α] (k : α) (ks : List α) (v : β) (vs : List β) : look k (k :: ks) (v :: vs) = some v := by simp [look]
theorem look_cons {α β : Type} [DecidableEq α] (k a : α) (ks : List α) (v : β) (vs : List β) : look k (a :: ks) (v :: vs) = if a = k then some v else look k ks vs := (rfl)
@[simp] theorem still_none (ds : List D) : still (ds, none) s = true := (rfl)
@[simp] theorem leave_d (kp : Bool) (n : Nat) (x : D) : leave kp n (.d x) s = .ok (.d x) (s.take n) := (rfl)
theorem leave_loc (kp : Bool) (n l : Nat) : leave kp n (.loc l) s = if l < n then .ok (.loc l) (s.take n) else match s[l]? with
    | some (.lst ds) => if kp then .ok (.loc n) (s.take n ++ [.lst ds]) else .ok (.d (.lst ds)) (s.take n)
    | some (.dct t ks vs) => if kp then .ok (.loc n) (s.take n ++ [.dct t ks vs]) else .ok (.d (.dct t ks vs)) (s.take n)
    | some (.obj c ks vs) => if kp then .ok (.loc n) (s.take n ++ [.obj c ks vs]) else .ok (.d (.obj c ks vs)) (s.take n)
    | _ => .no := by unfold leave; try exact (rfl)
/-! operators -/
@[simp] theorem o_neg (i : Int) : opSem .neg [.d (.int i)] s = .ok (.w (.d (.int (-i)))) s := (rfl)
@[simp] theorem o_abs (i : Int) : opSem .abs [.d (.int i)] s = .ok (.w (.d (.int (if i < 0 then -i else i)))) s := (rfl)
@[simp] theorem o_intb (b : Bool) : opSem .int [.d (.bl b)] s = .ok (.w (.d (.int (if b then 1 else 0)))) s := (rfl)
@[simp] theorem o_int (i : Int) : opSem .int [.d (.int i)] s = .ok (.w (.d (.int i))) s := (rfl)
@[simp] theorem o_len_t (ds : List D) : opSem .len [.d (.tup ds)] s = .ok (.w (.d (.int ds.length))) s := (rfl)
@[simp] theorem o_len_l (ds : List D) : opSem .len [.d (.lst ds)] s = .ok (.w (.d (.int ds.length))) s := (rfl)
@[simp] theorem o_len_r (ds : List D) : opSem .len [.d (.rol ds)] s = .ok (.w (.d (.int ds.length))) s := (rfl)
@[simp] theorem o_len_loc (l : Nat) : opSem .len [.loc l] s = (match seqOf s (.loc l) with | some ds => .ok (.w (.d (.int ds.length))) s | none => .no) := (rfl)
theorem o_len_s (z : Str) (h : sm z.length = true) : opSem .len [.d (.str z)] s = .ok (.w (.d (.int z.length))) s := by
  rw [← sm_eq] at h
  simp only [opSem, lenS]
  simp [h, int1]
@[simp] theorem o_lenD (x : W) : opSem .lenD [x] s = (match dctOf s x with | some (_, ks, _) => .ok (.w (.d (.int ks.length))) s | none => .no) := (rfl)
@[simp] theorem o_sum (x : W) : opSem .sum [x] s = (match seqOf s x with | some ds => (R.of (dInts ds) s).bnd fun r s => .ok (.w (.d (.int r.sum))) s | none => .no) := (rfl)
@[simp] theorem o_isTup_t (ds : List D) : opSem .isTup [.d (.tup ds)] s = .ok (.w (.d (.bl true))) s := (rfl)
@[simp] theorem o_isTup_i (i : Int) : opSem .isTup [.d (.int i)] s = .ok (.w (.d (.bl false))) s := (rfl)
@[simp] theorem o_isCls_o (c k : Nat) (a : List Nat) (b : List D) : opSem (.isCls c) [.d (.obj k a b)] s = .ok (.w (.d (.bl (decide (k = c))))) s := (rfl)
@[simp] theorem o_isCls_s (c : Nat) (z : Str) : opSem (.isCls c) [.d (.str z)] s = .ok (.w (.d (.bl false))) s := (rfl)
@[simp] theorem o_isCls_t (c : Nat) (ds : List D) : opSem (.isCls c) [.d (.tup ds)] s = .ok (.w (.d (.bl false))) s := (rfl)
@[simp] theorem o_isCls_n (c : Nat) : opSem (.isCls c) [.d .non] s = .ok (.w (.d (.bl false))) s := (rfl)
@[simp] theorem o_list (x : W) : opSem .list [x] s = (match seqOf s x with | some ds => .ok (.fl ds) s | none => .no) := (rfl)
@[simp] theorem o_tuple_t (ds : List D) : opSem .tuple [.d (.tup ds)] s = .ok (.w (.d (.tup ds))) s := (rfl)
@[simp] theorem o_tuple_l (ds : List D) : opSem .tuple [.d (.lst ds)] s = .ok (.w (.d (.tup ds))) s := (rfl)
@[simp] theorem o_tuple_loc (l : Nat) : opSem .tuple [.loc l] s = (match lstOf s (.loc l) with | some ds => .ok (.w (.d (.tup ds))) s | none => .no) := (rfl)
@[simp] theorem o_listRev (x : W) : opSem .listRev [x] s = (match lstOf s x with | some ds => .ok (.fl ds.reverse) s | none => .no) := (rfl)
@[simp] theorem o_tupleRev (x : W) : opSem .tupleRev [x] s = (match lstOf s x with | some ds => .ok (.w (.d (.tup ds.reverse))) s | none => .no) := (rfl)
@[simp] theorem o_all (x : W) : opSem .all [x] s = (match lstOf s x with | some ds => (R.of (bls ds) s).bnd fun r s => .ok (.w (.d (.bl (r.all id)))) s | none => .no) := (rfl)
@[simp] theorem o_any (x : W) : opSem .any [x] s = (match lstOf s x with | some ds => (R.of (bls ds) s).bnd fun r s => .ok (.w (.d (.bl (r.any id)))) s | none => .no) := (rfl)
@[simp] theorem o_pop (l : Nat) : opSem .pop [.loc l] s = (match s[l]? with
    | some (.lst ds) => (R.of ds.getLast? s).bnd fun d s => .ok (.w (.d d)) (s.set l (.lst ds.dropLast))
    | _ => .no) := (rfl)
@[simp] theorem o_append (l : Nat) (d : D) : opSem .append [.loc l, .d d] s = (match s[l]? with
    | some (.lst ds) => if sm ds.length then .ok (.w (.d .non)) (s.set l (.lst (ds ++ [d]))) else .no
    | _ => .no) := by rw [← sm_eq]; try exact (rfl)
@[simp] theorem o_extend (l : Nat) (y : W) : opSem .extend [.loc l, y] s = (match lstM s y with
    | some es => match s[l]? with
      | some (.lst ds) => if sm ds.length && sm es.length then .ok (.w (.d .non)) (s.set l (.lst (ds ++ es))) else .no
      | _ => .no
    | none => .no) := by
  rw [← sm_eq]
  simp only [opSem, extS]
  cases lstM s y <;> rfl
@[simp] theorem o_add_i (i j : Int) : opSem .add [.d (.int i), .d (.int j)] s = .ok (.w (.d (.int (i + j)))) s := (rfl)
@[simp] theorem o_add_s (x y : Str) : opSem .add [.d (.str x), .d (.str y)] s = if sm x.length && sm y.length then .ok (.w (.d (.str (x ++ y)))) s else .no := by rw [← sm_eq]; try exact (rfl)
@[simp] theorem o_add_t (x y : List D) : opSem .add [.d (.tup x), .d (.tup y)] s = if sm x.length && sm y.length then .ok (.w (.d (.tup (x ++ y)))) s else .no := by rw [← sm_eq]; try exact (rfl)
@[simp] theorem o_add_l (x y : List D) : opSem .add [.d (.lst x), .d (.lst y)] s = if sm x.length && sm y.length then .ok (.fl (x ++ y)) s else .no := by rw [← sm_eq]; try exact (rfl)
@[simp] theorem o_sub (i j : Int) : opSem .sub [.d (.int i), .d (.int j)] s = .ok (.w (.d (.int (i - j)))) s := (rfl)
@[simp] theorem o_mul_i (i j : Int) : opSem .mul [.d (.int i), .d (.int j)] s = if bg i || bg j then .ok (.w (.d (.int (i * j)))) s else .no := by rw [← bg_eq]; try exact (rfl)
@[simp] theorem o_fdiv (i j : Int) : opSem .fdiv [.d (.int i), .d (.int j)] s = if 0 < j ∧ j < 1073741824 then .ok (.w (.d (.int (i / j)))) s else .no := by
  simp only [opSem, int2]
  split <;> simp_all [d1]
@[simp] theorem o_mod (i j : Int) : opSem .mod [.d (.int i), .d (.int j)] s = if 0 < j then .ok (.w (.d (.int (i % j)))) s else .no := by
  simp only [opSem, int2]
  split <;> simp_all [d1]
@[simp] theorem o_pow (i j : Int) : opSem .pow [.d (.int i), .d (.int j)] s = if 0 ≤ j ∧ j ≤ 1000 ∧ bg i = true then .ok (.w (.d (.int (i ^ j.toNat)))) s else .no := by
  rw [← bg_eq]
  simp only [opSem, int2]
  split <;> simp_all [d1]
@[simp] theorem o_divmod (i j : Int) : opSem .divmod [.d (.int i), .d (.int j)] s = if 0 < j ∧ j < 1073741824 then .ok (.w (.d (.tup [.int (i / j), .int (i % j)]))) s else .no := by
  simp only [opSem, int2]
  split <;> simp_all [d1]
@[simp] theorem objStr_os (c : Nat) (a : List Nat) (b : List D) (z : Str) : objStr (.obj c a b) (.str z) = true := (rfl)
@[simp] theorem o_eq (a b : D) : opSem .eq [.d a, .d b] s = if fair a b || objStr a b then .ok (.w (.d (.bl (decide (a = b))))) s else .no := by
  simp only [opSem, eqS, datOf_d, pyEqO]
  simp only [Bool.false_eq_true, if_false]
  split <;> simp_all [bl1]
@[simp] theorem o_ne (a b : D) : opSem .ne [.d a, .d b] s = if fair a b then .ok (.w (.d (.bl (!decide (a = b))))) s else .no := by
  simp only [opSem, eqS, datOf_d, pyEq]
  simp only [if_true]
  split <;> simp_all [bl1]
@[simp] theorem o_lt (i j : Int) : opSem .lt [.d (.int i), .d (.int j)] s = .ok (.w (.d (.bl (decide (i < j))))) s := (rfl)
theorem o_lt_t (a b : List D) (r : Bool) (h : Ds.al 7 a b = true) (ha : Ds.kn 7 a = true) (hb : Ds.kn 7 b = true) (e : Ds.lt a b = some r) : opSem .lt [.d (.tup a), .d (.tup b)] s = .ok (.w (.d (.bl r))) s := by
  simp only [opSem, ltS, h, ha, hb, Bool.and_self, if_true, e, R.of_some, R.bind_ok, bl1]
@[simp] theorem kindK_0 (k : D) : kindK 0 k = 0 := (rfl)
@[simp] theorem kindK_1 (k : D) : kindK 1 k = 1 := (rfl)
@[simp] theorem kindK_2 (k : D) : kindK 2 k = 2 := (rfl)
@[simp] theorem o_le (i j : Int) : opSem .le [.d (.int i), .d (.int j)] s = .ok (.w (.d (.bl (decide (i ≤ j))))) s := (rfl)
@[simp] theorem o_gt (i j : Int) : opSem .gt [.d (.int i), .d (.int j)] s = .ok (.w (.d (.bl (decide (j < i))))) s := (rfl)
@[simp] theorem o_ge (i j : Int) : opSem .ge [.d (.int i), .d (.int j)] s = .ok (.w (.d (.bl (decide (j ≤ i))))) s := (rfl)
@[simp] theorem o_max2 (i j : Int) : opSem .max2 [.d (.int i), .d (.int j)] s = .ok (.w (.d (.int (if j > i then j else i)))) s := (rfl)
@[simp] theorem o_min2 (i j : Int) : opSem .min2 [.d (.int i), .d (.int j)] s = .ok (.w (.d (.int (if j < i then j else i)))) s := (rfl)
@[simp] theorem o_isN (x : D) : opSem .isN [.d x, .d .non] s = .ok (.w (.d (.bl (decide (x = .non))))) s := by
  simp only [opSem, isNS, bl1, W.d.injEq]; try exact (rfl)
@[simp] theorem o_notN (x : D) : opSem .notN [.d x, .d .non] s = .ok (.w (.d (.bl (!decide (x = .non))))) s := by
  simp only [opSem, isNS, bl1, W.d.injEq]; try exact (rfl)
@[simp] theorem o_isB (a b : Bool) : opSem .isB [.d (.bl a), .d (.bl b)] s = .ok (.w (.d (.bl (decide (a = b))))) s := (rfl)
@[simp] theorem o_notB (a b : Bool) : opSem .notB [.d (.bl a), .d (.bl b)] s = .ok (.w (.d (.bl (!decide (a = b))))) s := (rfl)
@[simp] theorem o_inS (a : D) (y : W) : opSem .inS [.d a, y] s = (match seqOf s y with | some ds => (R.of (pyIn a ds) s).bnd fun r s => .ok (.w (.d (.bl r))) s | none => .no) := by
  simp only [opSem, inSq]
  cases seqOf s y <;> rfl
@[simp] theorem o_ninS (a : D) (y : W) : opSem .ninS [.d a, y] s = (match seqOf s y with | some ds => (R.of (pyIn a ds) s).bnd fun r s => .ok (.w (.d (.bl (!r)))) s | none => .no) := by
  simp only [opSem, inSq]
  cases seqOf s y <;> rfl
@[simp] theorem o_inD (a : D) (y : W) : opSem .inD [.d a, y] s = (match dctOf s y with | some (t, ks, _) => if keysOk t a then .ok (.w (.d (.bl (decide (a ∈ ks))))) s else .no | none => .no) := by
  simp only [opSem, inDc]
  cases dctOf s y <;> rfl
@[simp] theorem o_ninD (a : D) (y : W) : opSem .ninD [.d a, y] s = (match dctOf s y with | some (t, ks, _) => if keysOk t a then .ok (.w (.d (.bl (!decide (a ∈ ks))))) s else .no | none => .no) := by
  simp only [opSem, inDc]
  cases dctOf s y <;> rfl
@[simp] theorem o_ix_t (ds : List D) (i : Int) : opSem .ix [.d (.tup ds), .d (.int i)] s = (R.of (atI ds i) s).bnd d1 := (rfl)
@[simp] theorem o_ix_l (ds : List D) (i : Int) : opSem .ix [.d (.lst ds), .d (.int i)] s = (R.of (atI ds i) s).bnd d1 := (rfl)
@[simp] theorem o_ix_r (ds : List D) (i : Int) : opSem .ix [.d (.rol ds), .d (.int i)] s = (R.of (atI ds i) s).bnd d1 := (rfl)
@[simp] theorem o_ix_loc (l : Nat) (i : Int) : opSem .ix [.loc l, .d (.int i)] s = (match seqOf s (.loc l) with | some ds => (R.of (atI ds i) s).bnd d1 | none => .no) := (rfl)
@[simp] theorem o_ix_s (z : Str) (i : Int) : opSem .ix [.d (.str z), .d (.int i)] s = if sm z.length then (R.of (atI z.cps.toList i) s).bnd fun c s => d1 (.str ⟨#[c]⟩) s else .no := by rw [← sm_eq]; try exact (rfl)
@[simp] theorem o_dget (x : W) (k : D) : opSem .dget [x, .d k] s = (match dctOf s x with | some (t, ks, vs) => if keysOk t k then (R.of (look k ks vs) s).bnd d1 else .no | none => .no) := by
  simp only [opSem, dgetS]
  cases dctOf s x <;> rfl
@[simp] theorem d1_eq (d : D) : d1 d s = .ok (.w (.d d)) s := (rfl)
@[simp] theorem co_lt (i j : Int) : coSem .lt (.d (.int i)) (.d (.int j)) = some (decide (i < j)) := (rfl)
@[simp] theorem co_le (i j : Int) : coSem .le (.d (.int i)) (.d (.int j)) = some (decide (i ≤ j)) := (rfl)
@[simp] theorem rc_append (x : W) : recvOk .append x s = (lstOf s x).isSome := (rfl)
@[simp] theorem rc_pop (x : W) : recvOk .pop x s = (lstOf s x).isSome := (rfl)
@[simp] theorem rc_index (x : W) : recvOk .index x s = (lstOf s x).isSome := (rfl)
@[simp] theorem rc_extend (x : W) : recvOk .extend x s = (lstOf s x).isSome := (rfl)
@[simp] theorem rc_count (x : W) : recvOk .count x s = (lstOf s x).isSome := (rfl)
/-! the store -/
@[simp] theorem st_get {α : Type} (s r : List α) (i : Nat) : (s ++ r)[s.length + i]? = r[i]? := by
  rw [List.getElem?_append_right (by omega)]; congr 1; omega
@[simp] theorem st_get0 {α : Type} (s r : List α) : (s ++ r)[s.length]? = r[0]? := st_get s r 0
@[simp] theorem st_set {α : Type} (s r : List α) (i : Nat) (v : α) : (s ++ r).set (s.length + i) v = s ++ r.set i v := by
  rw [List.set_append_right _ _ (by omega)]; congr 2; omega
@[simp] theorem st_set0 {α : Type} (s r : List α) (v : α) : (s ++ r).set s.length v = s ++ r.set 0 v := st_set s r 0 v
@[simp] theorem st_take {α : Type} (s r : List α) : (s ++ r).take s.length = s := by simp
@[simp] theorem st_takeN {α : Type} (s r : List α) (i : Nat) : (s ++ r).take (s.length + i) = s ++ r.take i := by
  rw [List.take_append, List.take_of_length_le (by omega)]; simp
@[simp] theorem st_drop {α : Type} (x y : α) (s r : List α) : (x :: (s ++ y :: r)).dropLast = x :: (s ++ y :: r).dropLast := by
  cases s <;> rfl
@[simp] theorem tg_nm (i : Nat) (w : W) (e : Env) : tgSem (.nm i) w e = some (e.set i (some w)) := (rfl)
@[simp] theorem tg_tp (is : List Nat) (ds : List D) (e : Env) : tgSem (.tp is) (.d (.tup ds)) e = if is.length = ds.length then some (setAll is ds e) else none := (rfl)
@[simp] theorem setAll_cons (i : Nat) (is : List Nat) (d : D) (ds : List D) (e : Env) : setAll (i :: is) (d :: ds) e = setAll is ds (e.set i (some (.d d))) := (rfl)
@[simp] theorem setAll_nil (ds : List D) (e : Env) : setAll [] ds e = e := by cases ds <;> rfl
@[simp] theorem killE_nil (e : Env) : killE [] e = e := (rfl)
@[simp] theorem killE_cons (i : Nat) (r : List Nat) (e : Env) : killE (i :: r) e = killE r (e.set i none) := (rfl)
theorem forF_eq (tg : Tg) (kill : List Nat) (b : Env → Sto → R (Fl × Env)) (x : D) (e : Env) : forF tg kill b x e s = (match tgSem tg (.d x) e with
  | some e' => (b e' s).bnd fun r s => .ok (r.1, killE kill r.2) s
  | none => .no) := by unfold forF; try exact (rfl)
end
/-- an item by its number -/
def gi {α : Type} [Inhabited α] (r : List α) (i : Int) : α := r.getD i.toNat default
theorem atI_ok {α : Type} [Inhabited α] {r : List α} {i : Int} (h0 : 0 ≤ i) (h1 : i < r.length) : atI r i = some (gi r i) := by
  unfold atI ixOf gi
  rw [if_pos h0, if_pos h1]
  have : i.toNat < r.length := by omega
  simp [this]
@[simp] theorem atI_map {α β : Type} (f : α → β) (r : List α) (i : Int) : atI (r.map f) i = (atI r i).map f := by
  unfold atI
  simp only [List.length_map]
  cases ixOf r.length i <;> simp
@[simp] theorem atI_last {α : Type} (r : List α) (x : α) : atI (r ++ [x]) (-1) = some x := by
  unfold atI ixOf
  simp
  rw [if_pos (by omega)]
  simp
  have : ((-1 + ((r.length : Int) + 1))).toNat = r.length := by omega
  rw [this]
  simp

section
variable (c : Cxt) (n : Nat) (e : Env) (s : Sto)
@[simp] theorem forG_nil (tg : Tg) (kill : List Nat) (body : Ss) (g : Its) : forG c n tg kill body g [] e s = if still g s then .ok (.nx, e) s else .no := (rfl)
/-- what a turn's end leads to -/
def forK (c : Cxt) (n : Nat) (tg : Tg) (kill : List Nat) (body : Ss) (g : Its) (xs : List D) (q : Fl × Env) (s : Sto) : R (Fl × Env) := match q.1 with
  | .nx => forG c n tg kill body g xs (killE kill q.2) s
  | .cnt => forG c n tg kill body g xs (killE kill q.2) s
  | .brk => .ok (.nx, killE kill q.2) s
  | .ret w => .ok (.ret w, killE kill q.2) s
@[simp] theorem forK_nx (tg : Tg) (kill : List Nat) (body : Ss) (g : Its) (xs : List D) : forK c n tg kill body g xs (.nx, e) s = forG c n tg kill body g xs (killE kill e) s := (rfl)
@[simp] theorem forK_cnt (tg : Tg) (kill : List Nat) (body : Ss) (g : Its) (xs : List D) : forK c n tg kill body g xs (.cnt, e) s = forG c n tg kill body g xs (killE kill e) s := (rfl)
@[simp] theorem forK_brk (tg : Tg) (kill : List Nat) (body : Ss) (g : Its) (xs : List D) : forK c n tg kill body g xs (.brk, e) s = .ok (.nx, killE kill e) s := (rfl)
@[simp] theorem forK_ret (tg : Tg) (kill : List Nat) (body : Ss) (g : Its) (xs : List D) (w : W) : forK c n tg kill body g xs (.ret w, e) s = .ok (.ret w, killE kill e) s := (rfl)
theorem forG_cons (tg : Tg) (kill : List Nat) (body : Ss) (g : Its) (x : D) (xs : List D) : forG c n tg kill body g (x :: xs) e s = if still g s then (R.of (tgSem tg (.d x) e) s).bnd fun e' s => (evSs c n body e' s).bnd fun q s => forK c n tg kill body g xs q s else .no := by
  unfold forG
  rw [forL]
  split
  · rw [forF_eq]
    cases tgSem tg (.d x) e with
    | none => rfl
    | some e' =>
      simp only [R.of_some, R.bind_ok, R.bnd_ok]
      cases evSs c n body e' s with
      | ok q s' =>
        obtain ⟨fl, e''⟩ := q
        cases fl <;> rfl
      | err _ _ => rfl
      | no => rfl
  · rfl
/-- what a turn of a while leads to -/
def whlK (c : Cxt) (n : Nat) (t : E) (kill : List Nat) (body : Ss) (m : Nat) (q : Fl × Env) (s : Sto) : R (Fl × Env) := match q.1 with
  | .nx => whlG c n t kill body m (killE kill q.2) s
  | .cnt => whlG c n t kill body m (killE kill q.2) s
  | .brk => .ok (.nx, killE kill q.2) s
  | .ret w => .ok (.ret w, killE kill q.2) s
@[simp] theorem whlK_nx (t : E) (kill : List Nat) (body : Ss) (m : Nat) : whlK c n t kill body m (.nx, e) s = whlG c n t kill body m (killE kill e) s := (rfl)
@[simp] theorem whlK_cnt (t : E) (kill : List Nat) (body : Ss) (m : Nat) : whlK c n t kill body m (.cnt, e) s = whlG c n t kill body m (killE kill e) s := (rfl)
@[simp] theorem whlK_brk (t : E) (kill : List Nat) (body : Ss) (m : Nat) : whlK c n t kill body m (.brk, e) s = .ok (.nx, killE kill e) s := (rfl)
@[simp] theorem whlK_ret (t : E) (kill : List Nat) (body : Ss) (m : Nat) (w : W) : whlK c n t kill body m (.ret w, e) s = .ok (.ret w, killE kill e) s := (rfl)
theorem whlG_succ (t : E) (kill : List Nat) (body : Ss) (m : Nat) : whlG c n t kill body (m + 1) e s = (evE c t e s).bnd fun w s1 => match asB w with
    | some true => (evSs c n body e s1).bnd fun q s => whlK c n t kill body m q s
    | some false => .ok (.nx, e) s1
    | none => .no := by
  unfold whlG
  rw [whlL]
  congr 1
  funext w s1
  rcases asB w with _ | _ | _
  · rfl
  · rfl
  · simp only [whlF]
    cases evSs c n body e s1 with
    | ok q s' =>
      obtain ⟨fl, e''⟩ := q
      cases fl <;> rfl
    | err _ _ => rfl
    | no => rfl
@[simp] theorem lcG_nil (tg : Tg) (ifs : Es) (elt : E) (g : Its) : lcG c tg ifs elt e g n [] s = if still g s then .ok () s else .no := (rfl)
/-- one more item of a comprehension -/
noncomputable def lcA (n : Nat) (d : D) (s : Sto) (f : Sto → R Unit) (_ : Mk f := .mk) : R Unit := match s[n]? with
  | some (.lst acc) => if sm acc.length then f (s.set n (.lst (acc ++ [d]))) else .no
  | _ => .no
theorem lcG_cons (tg : Tg) (ifs : Es) (elt : E) (g : Its) (x : D) (xs : List D) : lcG c tg ifs elt e g n (x :: xs) s = if still g s then (R.of (tgSem tg (.d x) e) s).bnd fun e' s => (evC c ifs e' s).calm.bnd fun b s => if b then (evE c elt e' s).calm.bnd fun w s => (R.of (asD w) s).bnd fun y s => lcA n y s fun s => lcG c tg ifs elt e g n xs s else lcG c tg ifs elt e g n xs s else .no := by
  unfold lcG
  unfold lcA
  rw [← sm_eq]
  rw [lcL]
  split
  · unfold lcF
    cases tgSem tg (.d x) e with
    | none => rfl
    | some e' =>
      simp only [R.of_some, R.bind_ok, R.bnd_ok]
      cases evC c ifs e' s with
      | ok b s' =>
        cases b
        · rfl
        · simp only [R.bind_ok, R.bnd_ok, R.calm_ok, if_true]
          cases evE c elt e' s' with
          | ok w s'' =>
            cases w with
            | d y => rfl
            | loc l => rfl
          | err _ _ => rfl
          | no => rfl
      | err _ _ => rfl
      | no => rfl
  · rfl
end
/-- a def's end -/
def fnE (kp : Bool) (n : Nat) (r : R (Fl × Env)) : R W := match r with
  | .ok (.ret w, _) s' => leave kp n w s'
  | .ok (.nx, _) s' => .ok (.d .non) (s'.take n)
  | .ok _ _ => .no
  | .err x s' => .err x (s'.take n)
  | .no => .no
@[simp] theorem fnE_ret (kp : Bool) (n : Nat) (w : W) (e : Env) (s : Sto) : fnE kp n (.ok (.ret w, e) s) = leave kp n w s := (rfl)
@[simp] theorem fnE_nx (kp : Bool) (n : Nat) (e : Env) (s : Sto) : fnE kp n (.ok (.nx, e) s) = .ok (.d .non) (s.take n) := (rfl)
@[simp] theorem fnE_err (kp : Bool) (n : Nat) (x : Nat) (s : Sto) : fnE kp n (.err x s) = .err x (s.take n) := (rfl)
/-- a def's run -/
def runN (np ns : Nat) (kp : Bool) (c : Cxt) (b : Ss) (ws : List W) (s : Sto) : R W := runFn c ⟨np, ns, kp, b⟩ ws s
theorem runN_eq (np ns : Nat) (kp : Bool) (c : Cxt) (b : Ss) (ws : List W) (s : Sto) : runN np ns kp c b ws s = if ws.length = np ∧ np ≤ ns then fnE kp s.length (evSs c s.length b (ws.map some ++ List.replicate (ns - np) none) s) else .no := (rfl)
/-! what the defs do, shut: the kernel does not look into it -/
noncomputable def cxS (P : Prog) : {f : Nat → Cxt // ∀ k, f k = ⟨P, PhiA P k⟩} := Classical.choice ⟨⟨fun k => ⟨P, PhiA P k⟩, fun _ => rfl⟩⟩
noncomputable def cx (P : Prog) (k : Nat) : Cxt := (cxS P).1 k
noncomputable def callS (P : Prog) : {f : Nat → Fun // ∀ k, f k = Phi P k} := Classical.choice ⟨⟨fun k => Phi P k, fun _ => rfl⟩⟩
noncomputable def call (P : Prog) (k : Nat) : Fun := (callS P).1 k
theorem cx_eq (P : Prog) (k : Nat) : cx P k = ⟨P, PhiA P k⟩ := (cxS P).2 k
theorem call_eq (P : Prog) (k : Nat) : call P k = Phi P k := (callS P).2 k
@[simp] theorem cx_P (P : Prog) (k : Nat) : (cx P k).P = P := by rw [cx_eq]
@[simp] theorem cx_F0 (P : Prog) (k : Nat) : (cx P k).F 0 = call P k := by rw [cx_eq, call_eq]; try exact (rfl)
@[simp] theorem cx_F1 (P : Prog) (k : Nat) : (cx P (k + 1)).F 1 = call P k := by rw [cx_eq, call_eq]; try exact (rfl)
@[simp] theorem cx_down (P : Prog) (k : Nat) : (cx P (k + 2)).down = cx P k := by rw [cx_eq, cx_eq]; try exact (rfl)
theorem call_at {P : Prog} {f np ns : Nat} {kp : Bool} {b : Ss} (h : P.fns[f]? = some ⟨np, ns, kp, b⟩) (k : Nat) (ws : List W) (s : Sto) : call P (k + 1) f ws s = runN np ns kp (cx P k) b ws s := by
  rw [call_eq, cx_eq]
  show runAll P (PhiA P k) f ws s = _
  unfold runAll
  rw [h]
  exact (rfl)
theorem evSs_of (c : Cxt) (n : Nat) (e : Env) (s : Sto) {b b' : Ss} (h : b = b') : evSs c n b e s = evSs c n b' e s := by rw [h]
theorem atI_mid {α : Type} (a b : List α) (x : α) : atI (a ++ x :: b) a.length = some x := by
  unfold atI ixOf
  rw [if_pos (by omega), if_pos (by simp; omega)]
  simp
theorem rngD_nil {i j : Int} (h : j ≤ i) : rngD i j = [] := by
  unfold rngD
  rw [show (j - i).toNat = 0 by omega]
  rfl
theorem rngD_cons {i j : Int} (h : i < j) : rngD i j = .int i :: rngD (i + 1) j := by
  unfold rngD
  rw [show (j - i).toNat = (j - (i + 1)).toNat + 1 by omega, List.range_succ_eq_map]
  simp [Function.comp_def]
  intro a _
  omega
end TT

namespace G
abbrev F_end_of : Nat := 0
abbrev F_is_tree : Nat := 1
abbrev F_check_tree : Nat := 2
abbrev F_places_in : Nat := 3
abbrev F_places : Nat := 4
abbrev F_start_of : Nat := 5
abbrev F_at : Nat := 6
abbrev F_is_made_row : Nat := 7
abbrev F_Turner___init__ : Nat := 8
abbrev F_Turner_book : Nat := 9
abbrev F_Turner_goals : Nat := 10
abbrev F_Turner_states : Nat := 11
abbrev F_Turner_row : Nat := 12
abbrev F_Turner_with_rows : Nat := 13
abbrev F_idle : Nat := 14
abbrev F_folded : Nat := 15
abbrev F_all_folded : Nat := 16
abbrev F_Through___init__ : Nat := 17
abbrev F_Through_of_row : Nat := 18
abbrev F_Through_lead : Nat := 19
abbrev F_Sizes_lead : Nat := 20
abbrev F_Built___init__ : Nat := 21
abbrev F_Built_lead : Nat := 22
abbrev F_told_row : Nat := 23
abbrev F_turned_by : Nat := 24
abbrev F_turned : Nat := 25
abbrev F_size_turned : Nat := 26
abbrev F_kid_places : Nat := 27
abbrev F_row_end : Nat := 28
abbrev F_Walk___init__ : Nat := 29
abbrev F_Walk_go_in : Nat := 30
abbrev F_Walk_go_down : Nat := 31
abbrev F_Walk_part : Nat := 32
abbrev F_part_turned : Nat := 33
abbrev F_must_be_like : Nat := 34
abbrev F_Behind___init__ : Nat := 35
abbrev F_Behind_made_row : Nat := 36
abbrev F_behind : Nat := 37
abbrev F_numbered : Nat := 38
abbrev F_again : Nat := 39
abbrev F_is_name : Nat := 40
abbrev F_check_book : Nat := 41
abbrev F_Book___init__ : Nat := 42
abbrev F_Book_many : Nat := 43
abbrev F_Book_name : Nat := 44
abbrev F_Book_kids : Nat := 45
abbrev F_Book_number : Nat := 46
abbrev F_Book_is_like : Nat := 47
abbrev F__law_cell : Nat := 48
abbrev F__law_mix : Nat := 49
abbrev F__law_box : Nat := 50
abbrev F__law_take : Nat := 51
abbrev F__law_signs : Nat := 52
abbrev F__law_numbers : Nat := 53
abbrev F__law_tree : Nat := 54
abbrev F__law_made : Nat := 55
abbrev F__law_is_small : Nat := 56
abbrev F__law_powers : Nat := 57
abbrev F__law_tree_right : Nat := 58
abbrev F__law_right : Nat := 59
abbrev F_law : Nat := 60
@[simp] abbrev C_Turner : Nat := 0
@[simp] abbrev C_Through : Nat := 1
@[simp] abbrev C_Sizes : Nat := 2
@[simp] abbrev C_Built : Nat := 3
@[simp] abbrev C_Walk : Nat := 4
@[simp] abbrev C_Behind : Nat := 5
@[simp] abbrev C_Book : Nat := 6
abbrev M_book : Nat := 0
abbrev M_goals : Nat := 1
abbrev M_states : Nat := 2
abbrev M_row : Nat := 3
abbrev M_with_rows : Nat := 4
abbrev M_of_row : Nat := 5
abbrev M_lead : Nat := 6
abbrev M_go_in : Nat := 7
abbrev M_go_down : Nat := 8
abbrev M_part : Nat := 9
abbrev M_made_row : Nat := 10
abbrev M_many : Nat := 11
abbrev M_name : Nat := 12
abbrev M_kids : Nat := 13
abbrev M_number : Nat := 14
abbrev M_is_like : Nat := 15
@[simp] abbrev A_own_book : Nat := 0
@[simp] abbrev A_own_goals : Nat := 1
@[simp] abbrev A_own_rows : Nat := 2
@[simp] abbrev A_own_turner : Nat := 3
@[simp] abbrev A_own_inner : Nat := 4
@[simp] abbrev A_own_most : Nat := 5
@[simp] abbrev A_own_tree : Nat := 6
@[simp] abbrev A_own_kids : Nat := 7
@[simp] abbrev A_own_here : Nat := 8
@[simp] abbrev A_own_made : Nat := 9
@[simp] abbrev A_own_at : Nat := 10
@[simp] abbrev A_own_states : Nat := 11
@[simp] abbrev A_own_through : Nat := 12
@[simp] abbrev A_names_told : Nat := 13
@[simp] abbrev A_kids_told : Nat := 14
abbrev X_HandError : Nat := 0
abbrev X_NoBook : Nat := 1
abbrev X_NoTree : Nat := 2
abbrev X_NoPlace : Nat := 3
abbrev X_NoReader : Nat := 4
abbrev X_Unlike : Nat := 5
abbrev X_TooGreat : Nat := 6
abbrev X_NoGuesser : Nat := 7
abbrev X_NoPattern : Nat := 8
abbrev X_NoNumber : Nat := 9
abbrev X_NoTurner : Nat := 10
abbrev X_NoText : Nat := 11
abbrev X_NoLine : Nat := 12
abbrev X_NoName : Nat := 13
abbrev X_Nothing : Nat := 14
/-- end_of(book, row, start): 0=book 1=row 2=start 3=wanted 4=spot -/
def l_end_of_1 : TT.Ss := (.cons (.ite (.not (.chain .le .lt (.k (.int 0)) (.op true .ix (.cons (.v 1) (.cons (.v 4) .nil))) (.meth (.v 0) M_many .nil))) (.cons (.ret (.op true .neg (.cons (.k (.int 1)) .nil))) .nil) .nil) (.cons (.asg (.nm 3) (.op true .sub (.cons (.op true .add (.cons (.v 3) (.cons (.meth (.v 0) M_kids (.cons (.op true .ix (.cons (.v 1) (.cons (.v 4) .nil))) .nil)) .nil))) (.cons (.k (.int 1)) .nil)))) (.cons (.ite (.op true .eq (.cons (.v 3) (.cons (.k (.int 0)) .nil))) (.cons (.ret (.op true .add (.cons (.v 4) (.cons (.k (.int 1)) .nil)))) .nil) .nil) .nil)))
def u_end_of_1 (c : TT.Cxt) (n : Nat) (e : TT.Env) (s : TT.Sto) := TT.evSs_of c n e s l_end_of_1.eq_1
def b_end_of : TT.Ss := (.cons (.asg (.nm 3) (.k (.int 1))) (.cons (.for (.nm 4) (.rng2 (.v 2) (.op true .len (.cons (.v 1) .nil))) [4] l_end_of_1) (.cons (.ret (.op true .neg (.cons (.k (.int 1)) .nil))) .nil)))
def f_end_of : TT.Fn := ⟨3, 5, false, b_end_of⟩
/-- is_tree(book, tree): 0=book 1=tree -/
def b_is_tree : TT.Ss := (.cons (.ret (.bop true (.cons (.op true .le (.cons (.op true .len (.cons (.v 1) .nil)) (.cons (.g 0 (.int 40)) .nil))) (.cons (.op true .eq (.cons (.call F_end_of (.cons (.v 0) (.cons (.v 1) (.cons (.k (.int 0)) .nil)))) (.cons (.op true .len (.cons (.v 1) .nil)) .nil))) .nil)))) .nil)
def f_is_tree : TT.Fn := ⟨2, 2, false, b_is_tree⟩
/-- check_tree(book, tree): 0=book 1=tree -/
def b_check_tree : TT.Ss := (.cons (.ite (.not (.call F_is_tree (.cons (.v 0) (.cons (.v 1) .nil)))) (.cons (.raise X_NoTree) .nil) .nil) .nil)
def f_check_tree : TT.Fn := ⟨2, 2, false, b_check_tree⟩
/-- places_in(book, row): 0=book 1=row 2=found 3=spot 4=stop 5=kid 6=place 7=start -/
def l_places_in_1 : TT.Ss := (.cons (.ex (.bm true .append (.v 2) (.cons (.tup (.cons (.op true .add (.cons (.v 6) (.cons (.tup (.cons (.v 5) .nil)) .nil))) (.cons (.v 4) .nil))) .nil))) (.cons (.asg (.nm 4) (.call F_end_of (.cons (.v 0) (.cons (.v 1) (.cons (.v 4) .nil))))) .nil))
def u_places_in_1 (c : TT.Cxt) (n : Nat) (e : TT.Env) (s : TT.Sto) := TT.evSs_of c n e s l_places_in_1.eq_1
def l_places_in_2 : TT.Ss := (.cons (.asg (.tp [6, 7]) (.op true .ix (.cons (.v 2) (.cons (.v 3) .nil)))) (.cons (.asg (.nm 3) (.op true .add (.cons (.v 3) (.cons (.k (.int 1)) .nil)))) (.cons (.asg (.nm 4) (.op true .add (.cons (.v 7) (.cons (.k (.int 1)) .nil)))) (.cons (.for (.nm 5) (.rng1 (.meth (.v 0) M_kids (.cons (.op true .ix (.cons (.v 1) (.cons (.v 7) .nil))) .nil))) [5] l_places_in_1) .nil))))
def u_places_in_2 (c : TT.Cxt) (n : Nat) (e : TT.Env) (s : TT.Sto) := TT.evSs_of c n e s l_places_in_2.eq_1
def b_places_in : TT.Ss := (.cons (.asg (.nm 2) (.lst false (.cons (.tup (.cons (.tup .nil) (.cons (.k (.int 0)) .nil))) .nil))) (.cons (.asg (.nm 3) (.k (.int 0))) (.cons (.whl 1000000 (.op true .lt (.cons (.v 3) (.cons (.op true .len (.cons (.v 2) .nil)) .nil))) [4, 5, 6, 7] l_places_in_2) (.cons (.ret (.v 2)) .nil))))
def f_places_in : TT.Fn := ⟨2, 8, false, b_places_in⟩
/-- places(book, tree): 0=book 1=tree 2=place 3=start -/
def b_places : TT.Ss := (.cons (.ex (.call F_check_tree (.cons (.v 0) (.cons (.v 1) .nil)))) (.cons (.ret (.op true .sorted (.cons (.lc true [2, 3] (.tp [2, 3]) (.seq (.call F_places_in (.cons (.v 0) (.cons (.v 1) .nil)))) .nil (.v 2)) .nil))) .nil))
def f_places : TT.Fn := ⟨2, 4, false, b_places⟩
/-- start_of(book, tree, place): 0=book 1=tree 2=place 3=one 4=start -/
def l_start_of_1 : TT.Ss := (.cons (.ite (.op true .eq (.cons (.v 3) (.cons (.v 2) .nil))) (.cons (.ret (.v 4)) .nil) .nil) .nil)
def u_start_of_1 (c : TT.Cxt) (n : Nat) (e : TT.Env) (s : TT.Sto) := TT.evSs_of c n e s l_start_of_1.eq_1
def b_start_of : TT.Ss := (.cons (.for (.tp [3, 4]) (.seq (.call F_places_in (.cons (.v 0) (.cons (.v 1) .nil)))) [3, 4] l_start_of_1) (.cons (.raise X_NoPlace) .nil))
def f_start_of : TT.Fn := ⟨3, 5, false, b_start_of⟩
/-- at(book, tree, place): 0=book 1=tree 2=place 3=start -/
def b_at : TT.Ss := (.cons (.ex (.call F_check_tree (.cons (.v 0) (.cons (.v 1) .nil)))) (.cons (.asg (.nm 3) (.call F_start_of (.cons (.v 0) (.cons (.v 1) (.cons (.v 2) .nil))))) (.cons (.ret (.slc true (.v 1) (.cons (.v 3) .nil) (.cons (.call F_end_of (.cons (.v 0) (.cons (.v 1) (.cons (.v 3) .nil)))) .nil))) .nil)))
def f_at : TT.Fn := ⟨3, 4, false, b_at⟩
/-- is_made_row(goals, states, kids, row): 0=goals 1=states 2=kids 3=row 4=lacks 5=item -/
def l_is_made_row_1 : TT.Ss := (.cons (.ite (.op true .eq (.cons (.v 4) (.cons (.k (.int 0)) .nil))) (.cons (.ret (.k (.bl false))) .nil) .nil) (.cons (.asg (.nm 4) (.op true .sub (.cons (.v 4) (.cons (.k (.int 1)) .nil)))) (.cons (.ite (.op true .isTup (.cons (.v 5) .nil)) (.cons (.ite (.bop false (.cons (.op true .ne (.cons (.op true .len (.cons (.v 5) .nil)) (.cons (.k (.int 2)) .nil))) (.cons (.not (.chain .le .lt (.k (.int 0)) (.op true .ix (.cons (.v 5) (.cons (.k (.int 0)) .nil))) (.v 1))) (.cons (.not (.chain .le .lt (.k (.int 0)) (.op true .ix (.cons (.v 5) (.cons (.k (.int 1)) .nil))) (.v 2))) .nil)))) (.cons (.ret (.k (.bl false))) .nil) .nil) .nil) (.cons (.ite (.not (.chain .le .lt (.k (.int 0)) (.v 5) (.meth (.v 0) M_many .nil))) (.cons (.ret (.k (.bl false))) .nil) (.cons (.asg (.nm 4) (.op true .add (.cons (.v 4) (.cons (.meth (.v 0) M_kids (.cons (.v 5) .nil)) .nil)))) .nil)) .nil)) .nil)))
def u_is_made_row_1 (c : TT.Cxt) (n : Nat) (e : TT.Env) (s : TT.Sto) := TT.evSs_of c n e s l_is_made_row_1.eq_1
def b_is_made_row : TT.Ss := (.cons (.asg (.nm 4) (.k (.int 1))) (.cons (.for (.nm 5) (.seq (.v 3)) [5] l_is_made_row_1) (.cons (.ret (.op true .eq (.cons (.v 4) (.cons (.k (.int 0)) .nil)))) .nil)))
def f_is_made_row : TT.Fn := ⟨4, 6, false, b_is_made_row⟩
/-- Turner.__init__(self, book, goals, rows): 0=self 1=book 2=goals 3=rows 4=some 5=sign 6=row -/
def l_Turner___init___1 : TT.Ss := (.cons (.ite (.bop false (.cons (.op true .gt (.cons (.op true .len (.cons (.v 6) .nil)) (.cons (.g 0 (.int 8)) .nil))) (.cons (.not (.call F_is_made_row (.cons (.v 2) (.cons (.op true .len (.cons (.v 3) .nil)) (.cons (.meth (.v 1) M_kids (.cons (.v 5) .nil)) (.cons (.v 6) .nil)))))) .nil))) (.cons (.raise X_NoTurner) .nil) .nil) .nil)
def u_Turner___init___1 (c : TT.Cxt) (n : Nat) (e : TT.Env) (s : TT.Sto) := TT.evSs_of c n e s l_Turner___init___1.eq_1
def l_Turner___init___2 : TT.Ss := (.cons (.ite (.op true .ne (.cons (.op true .len (.cons (.v 4) .nil)) (.cons (.meth (.v 1) M_many .nil) .nil))) (.cons (.raise X_NoTurner) .nil) .nil) (.cons (.for (.tp [5, 6]) (.enm (.v 4)) [5, 6] l_Turner___init___1) .nil))
def u_Turner___init___2 (c : TT.Cxt) (n : Nat) (e : TT.Env) (s : TT.Sto) := TT.evSs_of c n e s l_Turner___init___2.eq_1
def b_Turner___init__ : TT.Ss := (.cons (.ite (.not (.chain .le .le (.k (.int 1)) (.op true .len (.cons (.v 3) .nil)) (.g 0 (.int 3)))) (.cons (.raise X_NoTurner) .nil) .nil) (.cons (.for (.nm 4) (.seq (.v 3)) [5, 6] l_Turner___init___2) (.cons (.fld (.v 0) A_own_book (.v 1)) (.cons (.fld (.v 0) A_own_goals (.v 2)) (.cons (.fld (.v 0) A_own_rows (.lc true [4] (.nm 4) (.seq (.v 3)) .nil (.op true .list (.cons (.v 4) .nil)))) .nil)))))
def f_Turner___init__ : TT.Fn := ⟨4, 7, false, b_Turner___init__⟩
/-- Turner.book(self): 0=self -/
def b_Turner_book : TT.Ss := (.cons (.ret (.attr (.v 0) A_own_book)) .nil)
def f_Turner_book : TT.Fn := ⟨1, 1, false, b_Turner_book⟩
/-- Turner.goals(self): 0=self -/
def b_Turner_goals : TT.Ss := (.cons (.ret (.attr (.v 0) A_own_goals)) .nil)
def f_Turner_goals : TT.Fn := ⟨1, 1, false, b_Turner_goals⟩
/-- Turner.states(self): 0=self -/
def b_Turner_states : TT.Ss := (.cons (.ret (.op true .len (.cons (.attr (.v 0) A_own_rows) .nil))) .nil)
def f_Turner_states : TT.Fn := ⟨1, 1, false, b_Turner_states⟩
/-- Turner.row(self, state, sign): 0=self 1=state 2=sign -/
def b_Turner_row : TT.Ss := (.cons (.ret (.op true .ix (.cons (.op true .ix (.cons (.attr (.v 0) A_own_rows) (.cons (.v 1) .nil))) (.cons (.v 2) .nil)))) .nil)
def f_Turner_row : TT.Fn := ⟨3, 3, false, b_Turner_row⟩
/-- Turner.with_rows(self, goals, rows): 0=self 1=goals 2=rows -/
def b_Turner_with_rows : TT.Ss := (.cons (.fld (.v 0) A_own_goals (.v 1)) (.cons (.fld (.v 0) A_own_rows (.v 2)) (.cons (.ret (.v 0)) .nil)))
def f_Turner_with_rows : TT.Fn := ⟨3, 3, true, b_Turner_with_rows⟩
/-- idle(book): 0=book 1=rows 2=sign 3=kid -/
def l_idle_1 : TT.Ss := (.cons (.ex (.bm true .append (.v 1) (.cons (.op true .add (.cons (.tup (.cons (.v 2) .nil)) (.cons (.op true .tuple (.cons (.lc true [3] (.nm 3) (.rng1 (.meth (.v 0) M_kids (.cons (.v 2) .nil))) .nil (.tup (.cons (.k (.int 0)) (.cons (.v 3) .nil)))) .nil)) .nil))) .nil))) .nil)
def u_idle_1 (c : TT.Cxt) (n : Nat) (e : TT.Env) (s : TT.Sto) := TT.evSs_of c n e s l_idle_1.eq_1
def b_idle : TT.Ss := (.cons (.asg (.nm 1) (.lst false .nil)) (.cons (.for (.nm 2) (.rng1 (.meth (.v 0) M_many .nil)) [2] l_idle_1) (.cons (.gfrz 1) (.cons (.ret (.new false C_Turner (.cons (.v 0) (.cons (.v 0) (.cons (.lst true (.cons (.v 1) .nil)) .nil))))) .nil))))
def f_idle : TT.Fn := ⟨1, 4, true, b_idle⟩
/-- folded(book, row, hand, given): 0=book 1=row 2=hand 3=given 4=waiting 5=item 6=kids 7=kid -/
def l_folded_1 : TT.Ss := (.cons (.ite (.op true .isTup (.cons (.v 5) .nil)) (.cons (.ex (.bm true .append (.v 4) (.cons (.op true .dget (.cons (.v 3) (.cons (.v 5) .nil))) .nil))) .nil) (.cons (.asg (.nm 6) (.op true .tuple (.cons (.lc true [7] (.nm 7) (.rng1 (.meth (.v 0) M_kids (.cons (.v 5) .nil))) .nil (.bm true .pop (.v 4) .nil)) .nil))) (.cons (.ex (.bm true .append (.v 4) (.cons (.meth (.v 2) M_lead (.cons (.v 5) (.cons (.v 6) .nil))) .nil))) .nil))) .nil)
def u_folded_1 (c : TT.Cxt) (n : Nat) (e : TT.Env) (s : TT.Sto) := TT.evSs_of c n e s l_folded_1.eq_1
def b_folded : TT.Ss := (.cons (.asg (.nm 4) (.lst false .nil)) (.cons (.for (.nm 5) (.revs (.v 1)) [5, 6, 7] l_folded_1) (.cons (.ret (.op true .ix (.cons (.v 4) (.cons (.op true .neg (.cons (.k (.int 1)) .nil)) .nil)))) .nil)))
def f_folded : TT.Fn := ⟨4, 8, false, b_folded⟩
/-- all_folded(book, tree, hand): 0=book 1=tree 2=hand 3=found 4=waiting 5=sign 6=kids 7=kid -/
def l_all_folded_1 : TT.Ss := (.cons (.asg (.nm 6) (.op true .tuple (.cons (.lc true [7] (.nm 7) (.rng1 (.meth (.v 0) M_kids (.cons (.v 5) .nil))) .nil (.bm true .pop (.v 4) .nil)) .nil))) (.cons (.ex (.bm true .append (.v 4) (.cons (.meth (.v 2) M_lead (.cons (.v 5) (.cons (.v 6) .nil))) .nil))) (.cons (.ex (.bm true .append (.v 3) (.cons (.op true .ix (.cons (.v 4) (.cons (.op true .neg (.cons (.k (.int 1)) .nil)) .nil))) .nil))) .nil)))
def u_all_folded_1 (c : TT.Cxt) (n : Nat) (e : TT.Env) (s : TT.Sto) := TT.evSs_of c n e s l_all_folded_1.eq_1
def b_all_folded : TT.Ss := (.cons (.asg (.nm 3) (.lst false .nil)) (.cons (.asg (.nm 4) (.lst false .nil)) (.cons (.for (.nm 5) (.revs (.v 1)) [5, 6, 7] l_all_folded_1) (.cons (.ret (.op true .listRev (.cons (.v 3) .nil))) .nil))))
def f_all_folded : TT.Fn := ⟨3, 8, false, b_all_folded⟩
/-- Through.__init__(self, turner, inner): 0=self 1=turner 2=inner -/
def b_Through___init__ : TT.Ss := (.cons (.fld (.v 0) A_own_turner (.v 1)) (.cons (.fld (.v 0) A_own_inner (.v 2)) .nil))
def f_Through___init__ : TT.Fn := ⟨3, 3, false, b_Through___init__⟩
/-- Through.of_row(self, row, kids): 0=self 1=row 2=kids 3=given 4=kid 5=some 6=state 7=thing -/
def l_Through_of_row_1 : TT.Ss := (.cons (.dput (.v 3) (.tup (.cons (.v 6) (.cons (.v 4) .nil))) (.v 7)) .nil)
def u_Through_of_row_1 (c : TT.Cxt) (n : Nat) (e : TT.Env) (s : TT.Sto) := TT.evSs_of c n e s l_Through_of_row_1.eq_1
def l_Through_of_row_2 : TT.Ss := (.cons (.for (.tp [6, 7]) (.enm (.v 5)) [6, 7] l_Through_of_row_1) .nil)
def u_Through_of_row_2 (c : TT.Cxt) (n : Nat) (e : TT.Env) (s : TT.Sto) := TT.evSs_of c n e s l_Through_of_row_2.eq_1
def b_Through_of_row : TT.Ss := (.cons (.asg (.nm 3) (.dic false 1)) (.cons (.for (.tp [4, 5]) (.enm (.v 2)) [4, 5, 6, 7] l_Through_of_row_2) (.cons (.ret (.call F_folded (.cons (.meth (.attr (.v 0) A_own_turner) M_goals .nil) (.cons (.v 1) (.cons (.attr (.v 0) A_own_inner) (.cons (.v 3) .nil)))))) .nil)))
def f_Through_of_row : TT.Fn := ⟨3, 8, false, b_Through_of_row⟩
/-- Through.lead(self, sign, kids): 0=self 1=sign 2=kids 3=found 4=state -/
def l_Through_lead_1 : TT.Ss := (.cons (.ex (.bm true .append (.v 3) (.cons (.meth (.v 0) M_of_row (.cons (.meth (.attr (.v 0) A_own_turner) M_row (.cons (.v 4) (.cons (.v 1) .nil))) (.cons (.v 2) .nil))) .nil))) .nil)
def u_Through_lead_1 (c : TT.Cxt) (n : Nat) (e : TT.Env) (s : TT.Sto) := TT.evSs_of c n e s l_Through_lead_1.eq_1
def b_Through_lead : TT.Ss := (.cons (.asg (.nm 3) (.lst false .nil)) (.cons (.for (.nm 4) (.rng1 (.meth (.attr (.v 0) A_own_turner) M_states .nil)) [4] l_Through_lead_1) (.cons (.ret (.op true .tuple (.cons (.v 3) .nil))) .nil)))
def f_Through_lead : TT.Fn := ⟨3, 5, false, b_Through_lead⟩
/-- Sizes.lead(self, sign, kids): 0=self 1=sign 2=kids -/
def b_Sizes_lead : TT.Ss := (.cons (.ret (.op true .add (.cons (.k (.int 1)) (.cons (.op true .sum (.cons (.v 2) .nil)) .nil)))) .nil)
def f_Sizes_lead : TT.Fn := ⟨3, 3, false, b_Sizes_lead⟩
/-- Built.__init__(self, most): 0=self 1=most -/
def b_Built___init__ : TT.Ss := (.cons (.fld (.v 0) A_own_most (.v 1)) .nil)
def f_Built___init__ : TT.Fn := ⟨2, 2, false, b_Built___init__⟩
/-- Built.lead(self, sign, kids): 0=self 1=sign 2=kids 3=size 4=row 5=kid -/
def l_Built_lead_1 : TT.Ss := (.cons (.asg (.nm 4) (.op true .add (.cons (.v 4) (.cons (.op true .ix (.cons (.v 5) (.cons (.k (.int 1)) .nil))) .nil)))) .nil)
def u_Built_lead_1 (c : TT.Cxt) (n : Nat) (e : TT.Env) (s : TT.Sto) := TT.evSs_of c n e s l_Built_lead_1.eq_1
def b_Built_lead : TT.Ss := (.cons (.asg (.nm 3) (.op true .add (.cons (.k (.int 1)) (.cons (.op true .sum (.cons (.lc true [5] (.nm 5) (.seq (.v 2)) .nil (.op true .ix (.cons (.v 5) (.cons (.k (.int 0)) .nil)))) .nil)) .nil)))) (.cons (.ite (.op true .gt (.cons (.v 3) (.cons (.attr (.v 0) A_own_most) .nil))) (.cons (.ret (.tup (.cons (.v 3) (.cons (.k .non) .nil)))) .nil) .nil) (.cons (.asg (.nm 4) (.tup (.cons (.v 1) .nil))) (.cons (.for (.nm 5) (.seq (.v 2)) [5] l_Built_lead_1) (.cons (.ret (.tup (.cons (.v 3) (.cons (.v 4) .nil)))) .nil)))))
def f_Built_lead : TT.Fn := ⟨3, 6, false, b_Built_lead⟩
/-- told_row(found): 0=found -/
def b_told_row : TT.Ss := (.cons (.ite (.op true .isN (.cons (.op true .ix (.cons (.v 0) (.cons (.k (.int 1)) .nil))) (.cons (.k .non) .nil))) (.cons (.raise X_TooGreat) .nil) .nil) (.cons (.ret (.op true .ix (.cons (.v 0) (.cons (.k (.int 1)) .nil)))) .nil))
def f_told_row : TT.Fn := ⟨1, 1, false, b_told_row⟩
/-- turned_by(turner, tree): 0=turner 1=tree -/
def b_turned_by : TT.Ss := (.cons (.ret (.call F_told_row (.cons (.op true .ix (.cons (.op true .ix (.cons (.call F_all_folded (.cons (.meth (.v 0) M_book .nil) (.cons (.v 1) (.cons (.new true C_Through (.cons (.v 0) (.cons (.new true C_Built (.cons (.g 0 (.int 200)) .nil)) .nil))) .nil)))) (.cons (.k (.int 0)) .nil))) (.cons (.k (.int 0)) .nil))) .nil))) .nil)
def f_turned_by : TT.Fn := ⟨2, 2, false, b_turned_by⟩
/-- turned(turner, tree): 0=turner 1=tree -/
def b_turned : TT.Ss := (.cons (.ex (.call F_check_tree (.cons (.meth (.v 0) M_book .nil) (.cons (.v 1) .nil)))) (.cons (.ret (.call F_turned_by (.cons (.v 0) (.cons (.v 1) .nil)))) .nil))
def f_turned : TT.Fn := ⟨2, 2, false, b_turned⟩
/-- size_turned(turner, tree): 0=turner 1=tree -/
def b_size_turned : TT.Ss := (.cons (.ex (.call F_check_tree (.cons (.meth (.v 0) M_book .nil) (.cons (.v 1) .nil)))) (.cons (.ret (.op true .ix (.cons (.op true .ix (.cons (.call F_all_folded (.cons (.meth (.v 0) M_book .nil) (.cons (.v 1) (.cons (.new true C_Through (.cons (.v 0) (.cons (.new0 C_Sizes) .nil))) .nil)))) (.cons (.k (.int 0)) .nil))) (.cons (.k (.int 0)) .nil)))) .nil))
def f_size_turned : TT.Fn := ⟨2, 2, false, b_size_turned⟩
/-- kid_places(book, tree): 0=book 1=tree 2=found 3=waiting 4=back 5=place 6=kid -/
def l_kid_places_1 : TT.Ss := (.cons (.asg (.nm 5) (.op true .sub (.cons (.op true .sub (.cons (.op true .len (.cons (.v 1) .nil)) (.cons (.k (.int 1)) .nil))) (.cons (.v 4) .nil)))) (.cons (.ex (.bm true .append (.v 2) (.cons (.lc true [6] (.nm 6) (.rng1 (.meth (.v 0) M_kids (.cons (.op true .ix (.cons (.v 1) (.cons (.v 5) .nil))) .nil))) .nil (.bm true .pop (.v 3) .nil)) .nil))) (.cons (.ex (.bm true .append (.v 3) (.cons (.v 5) .nil))) .nil)))
def u_kid_places_1 (c : TT.Cxt) (n : Nat) (e : TT.Env) (s : TT.Sto) := TT.evSs_of c n e s l_kid_places_1.eq_1
def b_kid_places : TT.Ss := (.cons (.asg (.nm 2) (.lst false .nil)) (.cons (.asg (.nm 3) (.lst false .nil)) (.cons (.for (.nm 4) (.rng1 (.op true .len (.cons (.v 1) .nil))) [4, 5, 6] l_kid_places_1) (.cons (.ret (.op true .listRev (.cons (.v 2) .nil))) .nil))))
def f_kid_places : TT.Fn := ⟨2, 7, false, b_kid_places⟩
/-- row_end(book, row, first): 0=book 1=row 2=first 3=lacks 4=at -/
def l_row_end_1 : TT.Ss := (.cons (.asg (.nm 3) (.op true .sub (.cons (.v 3) (.cons (.k (.int 1)) .nil)))) (.cons (.ite (.not (.op true .isTup (.cons (.op true .ix (.cons (.v 1) (.cons (.v 4) .nil))) .nil))) (.cons (.asg (.nm 3) (.op true .add (.cons (.v 3) (.cons (.meth (.v 0) M_kids (.cons (.op true .ix (.cons (.v 1) (.cons (.v 4) .nil))) .nil)) .nil)))) .nil) .nil) (.cons (.asg (.nm 4) (.op true .add (.cons (.v 4) (.cons (.k (.int 1)) .nil)))) .nil)))
def u_row_end_1 (c : TT.Cxt) (n : Nat) (e : TT.Env) (s : TT.Sto) := TT.evSs_of c n e s l_row_end_1.eq_1
def b_row_end : TT.Ss := (.cons (.asg (.nm 3) (.k (.int 1))) (.cons (.asg (.nm 4) (.v 2)) (.cons (.whl 1000000 (.op true .gt (.cons (.v 3) (.cons (.k (.int 0)) .nil))) [] l_row_end_1) (.cons (.ret (.v 4)) .nil))))
def f_row_end : TT.Fn := ⟨3, 5, false, b_row_end⟩
/-- Walk.__init__(self, turner, tree): 0=self 1=turner 2=tree -/
def b_Walk___init__ : TT.Ss := (.cons (.fld (.v 0) A_own_turner (.v 1)) (.cons (.fld (.v 0) A_own_tree (.v 2)) (.cons (.fld (.v 0) A_own_kids (.call F_kid_places (.cons (.meth (.v 1) M_book .nil) (.cons (.v 2) .nil)))) (.cons (.fld (.v 0) A_own_here (.k (.int 0))) (.cons (.fld (.v 0) A_own_made (.meth (.v 1) M_row (.cons (.k (.int 0)) (.cons (.op true .ix (.cons (.v 2) (.cons (.k (.int 0)) .nil))) .nil)))) (.cons (.fld (.v 0) A_own_at (.k (.int 0))) (.cons (.ex (.meth (.v 0) M_go_in .nil)) .nil)))))))
def f_Walk___init__ : TT.Fn := ⟨3, 3, false, b_Walk___init__⟩
/-- Walk.go_in(self): 0=self 1=state 2=kid -/
def l_Walk_go_in_1 : TT.Ss := (.cons (.asg (.tp [1, 2]) (.op true .ix (.cons (.attr (.v 0) A_own_made) (.cons (.attr (.v 0) A_own_at) .nil)))) (.cons (.fld (.v 0) A_own_here (.op true .ix (.cons (.op true .ix (.cons (.attr (.v 0) A_own_kids) (.cons (.attr (.v 0) A_own_here) .nil))) (.cons (.v 2) .nil)))) (.cons (.fld (.v 0) A_own_made (.meth (.attr (.v 0) A_own_turner) M_row (.cons (.v 1) (.cons (.op true .ix (.cons (.attr (.v 0) A_own_tree) (.cons (.attr (.v 0) A_own_here) .nil))) .nil)))) (.cons (.fld (.v 0) A_own_at (.k (.int 0))) .nil))))
def u_Walk_go_in_1 (c : TT.Cxt) (n : Nat) (e : TT.Env) (s : TT.Sto) := TT.evSs_of c n e s l_Walk_go_in_1.eq_1
def b_Walk_go_in : TT.Ss := (.cons (.whl 1000000 (.op true .isTup (.cons (.op true .ix (.cons (.attr (.v 0) A_own_made) (.cons (.attr (.v 0) A_own_at) .nil))) .nil)) [1, 2] l_Walk_go_in_1) .nil)
def f_Walk_go_in : TT.Fn := ⟨1, 3, false, b_Walk_go_in⟩
/-- Walk.go_down(self, number): 0=self 1=number 2=goals 3=turn -/
def l_Walk_go_down_1 : TT.Ss := (.cons (.fld (.v 0) A_own_at (.call F_row_end (.cons (.v 2) (.cons (.attr (.v 0) A_own_made) (.cons (.attr (.v 0) A_own_at) .nil))))) .nil)
def u_Walk_go_down_1 (c : TT.Cxt) (n : Nat) (e : TT.Env) (s : TT.Sto) := TT.evSs_of c n e s l_Walk_go_down_1.eq_1
def b_Walk_go_down : TT.Ss := (.cons (.asg (.nm 2) (.meth (.attr (.v 0) A_own_turner) M_goals .nil)) (.cons (.ite (.not (.chain .le .lt (.k (.int 0)) (.v 1) (.meth (.v 2) M_kids (.cons (.op true .ix (.cons (.attr (.v 0) A_own_made) (.cons (.attr (.v 0) A_own_at) .nil))) .nil)))) (.cons (.raise X_NoPlace) .nil) .nil) (.cons (.fld (.v 0) A_own_at (.op true .add (.cons (.attr (.v 0) A_own_at) (.cons (.k (.int 1)) .nil)))) (.cons (.for (.nm 3) (.rng1 (.v 1)) [3] l_Walk_go_down_1) (.cons (.ex (.meth (.v 0) M_go_in .nil)) .nil)))))
def f_Walk_go_down : TT.Fn := ⟨2, 4, false, b_Walk_go_down⟩
/-- Walk.part(self): 0=self 1=through 2=found 3=kids 4=end 5=place -/
def b_Walk_part : TT.Ss := (.cons (.asg (.nm 1) (.new true C_Through (.cons (.attr (.v 0) A_own_turner) (.cons (.new true C_Built (.cons (.g 0 (.int 200)) .nil)) .nil)))) (.cons (.asg (.nm 2) (.call F_all_folded (.cons (.meth (.attr (.v 0) A_own_turner) M_book .nil) (.cons (.attr (.v 0) A_own_tree) (.cons (.v 1) .nil))))) (.cons (.asg (.nm 3) (.lc true [5] (.nm 5) (.seq (.op true .ix (.cons (.attr (.v 0) A_own_kids) (.cons (.attr (.v 0) A_own_here) .nil)))) .nil (.op true .ix (.cons (.v 2) (.cons (.v 5) .nil))))) (.cons (.asg (.nm 4) (.call F_row_end (.cons (.meth (.attr (.v 0) A_own_turner) M_goals .nil) (.cons (.attr (.v 0) A_own_made) (.cons (.attr (.v 0) A_own_at) .nil))))) (.cons (.ret (.call F_told_row (.cons (.meth (.v 1) M_of_row (.cons (.slc true (.attr (.v 0) A_own_made) (.cons (.attr (.v 0) A_own_at) .nil) (.cons (.v 4) .nil)) (.cons (.v 3) .nil))) .nil))) .nil)))))
def f_Walk_part : TT.Fn := ⟨1, 6, false, b_Walk_part⟩
/-- part_turned(turner, tree, place): 0=turner 1=tree 2=place 3=walk 4=number -/
def l_part_turned_1 : TT.Ss := (.cons (.ex (.meth (.v 3) M_go_down (.cons (.v 4) .nil))) .nil)
def u_part_turned_1 (c : TT.Cxt) (n : Nat) (e : TT.Env) (s : TT.Sto) := TT.evSs_of c n e s l_part_turned_1.eq_1
def b_part_turned : TT.Ss := (.cons (.ex (.call F_check_tree (.cons (.meth (.v 0) M_book .nil) (.cons (.v 1) .nil)))) (.cons (.asg (.nm 3) (.new false C_Walk (.cons (.v 0) (.cons (.v 1) .nil)))) (.cons (.for (.nm 4) (.seq (.v 2)) [4] l_part_turned_1) (.cons (.ret (.meth (.v 3) M_part .nil)) .nil))))
def f_part_turned : TT.Fn := ⟨3, 5, false, b_part_turned⟩
/-- must_be_like(one, other): 0=one 1=other -/
def b_must_be_like : TT.Ss := (.cons (.ite (.not (.meth (.v 0) M_is_like (.cons (.v 1) .nil))) (.cons (.raise X_Unlike) .nil) .nil) .nil)
def f_must_be_like : TT.Fn := ⟨2, 2, false, b_must_be_like⟩
/-- Behind.__init__(self, other): 0=self 1=other -/
def b_Behind___init__ : TT.Ss := (.cons (.fld (.v 0) A_own_states (.meth (.v 1) M_states .nil)) (.cons (.fld (.v 0) A_own_through (.new true C_Through (.cons (.v 1) (.cons (.new true C_Built (.cons (.g 0 (.int 60)) .nil)) .nil)))) .nil))
def f_Behind___init__ : TT.Fn := ⟨2, 2, false, b_Behind___init__⟩
/-- Behind.made_row(self, book, row, state): 0=self 1=book 2=row 3=state 4=given 5=item 6=later -/
def l_Behind_made_row_1 : TT.Ss := (.cons (.ite (.op true .isTup (.cons (.v 5) .nil)) (.cons (.dput (.v 4) (.v 5) (.op true .tuple (.cons (.lc true [6] (.nm 6) (.rng1 (.attr (.v 0) A_own_states)) .nil (.tup (.cons (.k (.int 1)) (.cons (.tup (.cons (.tup (.cons (.tup (.cons (.op true .ix (.cons (.v 5) (.cons (.k (.int 0)) .nil))) (.cons (.v 6) .nil))) (.cons (.op true .ix (.cons (.v 5) (.cons (.k (.int 1)) .nil))) .nil))) .nil)) .nil)))) .nil))) .nil) .nil) .nil)
def u_Behind_made_row_1 (c : TT.Cxt) (n : Nat) (e : TT.Env) (s : TT.Sto) := TT.evSs_of c n e s l_Behind_made_row_1.eq_1
def b_Behind_made_row : TT.Ss := (.cons (.asg (.nm 4) (.dic false 1)) (.cons (.for (.nm 5) (.seq (.v 2)) [5] l_Behind_made_row_1) (.cons (.ret (.call F_told_row (.cons (.op true .ix (.cons (.call F_folded (.cons (.v 1) (.cons (.v 2) (.cons (.attr (.v 0) A_own_through) (.cons (.v 4) .nil))))) (.cons (.v 3) .nil))) .nil))) .nil)))
def f_Behind_made_row : TT.Fn := ⟨4, 7, false, b_Behind_made_row⟩
/-- behind(one, other): 0=one 1=other 2=after 3=pairs 4=rows 5=told 6=some 7=sign 8=first 9=second 10=row 11=item -/
def l_behind_1 : TT.Ss := (.cons (.ite (.bop true (.cons (.op true .isTup (.cons (.v 11) .nil)) (.cons (.op true .ninS (.cons (.op true .ix (.cons (.v 11) (.cons (.k (.int 0)) .nil))) (.cons (.v 3) .nil))) .nil))) (.cons (.ex (.bm true .append (.v 3) (.cons (.op true .ix (.cons (.v 11) (.cons (.k (.int 0)) .nil))) .nil))) .nil) .nil) .nil)
def u_behind_1 (c : TT.Cxt) (n : Nat) (e : TT.Env) (s : TT.Sto) := TT.evSs_of c n e s l_behind_1.eq_1
def l_behind_2 : TT.Ss := (.cons (.asg (.nm 10) (.meth (.v 2) M_made_row (.cons (.meth (.v 0) M_goals .nil) (.cons (.meth (.v 0) M_row (.cons (.v 8) (.cons (.v 7) .nil))) (.cons (.v 9) .nil))))) (.cons (.for (.nm 11) (.seq (.v 10)) [11] l_behind_1) (.cons (.ex (.bm true .append (.v 6) (.cons (.v 10) .nil))) .nil)))
def u_behind_2 (c : TT.Cxt) (n : Nat) (e : TT.Env) (s : TT.Sto) := TT.evSs_of c n e s l_behind_2.eq_1
def l_behind_3 : TT.Ss := (.cons (.asg (.tp [8, 9]) (.op true .ix (.cons (.v 3) (.cons (.op true .len (.cons (.v 4) .nil)) .nil)))) (.cons (.asg (.nm 6) (.lst false .nil)) (.cons (.for (.nm 7) (.rng1 (.meth (.meth (.v 0) M_book .nil) M_many .nil)) [7, 11] l_behind_2) (.cons (.gfrz 6) (.cons (.ex (.bm true .append (.v 4) (.cons (.v 6) .nil))) .nil)))))
def u_behind_3 (c : TT.Cxt) (n : Nat) (e : TT.Env) (s : TT.Sto) := TT.evSs_of c n e s l_behind_3.eq_1
def b_behind : TT.Ss := (.cons (.ex (.call F_must_be_like (.cons (.meth (.v 0) M_goals .nil) (.cons (.meth (.v 1) M_book .nil) .nil)))) (.cons (.asg (.nm 2) (.new true C_Behind (.cons (.v 1) .nil))) (.cons (.asg (.nm 3) (.lst false (.cons (.tup (.cons (.k (.int 0)) (.cons (.k (.int 0)) .nil))) .nil))) (.cons (.asg (.nm 4) (.lst false .nil)) (.cons (.whl 1000000 (.op true .lt (.cons (.op true .len (.cons (.v 4) .nil)) (.cons (.op true .len (.cons (.v 3) .nil)) .nil))) [7, 8, 9, 11] l_behind_3) (.cons (.asg (.nm 5) (.lc true [6] (.nm 6) (.seq (.v 4)) .nil (.lc true [10] (.nm 10) (.seq (.v 6)) .nil (.call F_numbered (.cons (.v 10) (.cons (.v 3) .nil)))))) (.cons (.ret (.meth (.call F_idle (.cons (.meth (.v 0) M_book .nil) .nil)) M_with_rows (.cons (.meth (.v 1) M_goals .nil) (.cons (.v 5) .nil)))) .nil)))))))
def f_behind : TT.Fn := ⟨2, 12, false, b_behind⟩
/-- numbered(row, pairs): 0=row 1=pairs 2=found 3=item -/
def l_numbered_1 : TT.Ss := (.cons (.ite (.op true .isTup (.cons (.v 3) .nil)) (.cons (.ex (.bm true .append (.v 2) (.cons (.tup (.cons (.bm true .index (.v 1) (.cons (.op true .ix (.cons (.v 3) (.cons (.k (.int 0)) .nil))) .nil)) (.cons (.op true .ix (.cons (.v 3) (.cons (.k (.int 1)) .nil))) .nil))) .nil))) .nil) (.cons (.ex (.bm true .append (.v 2) (.cons (.v 3) .nil))) .nil)) .nil)
def u_numbered_1 (c : TT.Cxt) (n : Nat) (e : TT.Env) (s : TT.Sto) := TT.evSs_of c n e s l_numbered_1.eq_1
def b_numbered : TT.Ss := (.cons (.asg (.nm 2) (.lst false .nil)) (.cons (.for (.nm 3) (.seq (.v 0)) [3] l_numbered_1) (.cons (.ret (.op true .tuple (.cons (.v 2) .nil))) .nil)))
def f_numbered : TT.Fn := ⟨2, 4, false, b_numbered⟩
/-- again(turner, tree, times): 0=turner 1=tree 2=times 3=here 4=turn -/
def l_again_1 : TT.Ss := (.cons (.asg (.nm 3) (.call F_turned_by (.cons (.v 0) (.cons (.v 3) .nil)))) .nil)
def u_again_1 (c : TT.Cxt) (n : Nat) (e : TT.Env) (s : TT.Sto) := TT.evSs_of c n e s l_again_1.eq_1
def b_again : TT.Ss := (.cons (.ex (.call F_must_be_like (.cons (.meth (.v 0) M_book .nil) (.cons (.meth (.v 0) M_goals .nil) .nil)))) (.cons (.ex (.call F_check_tree (.cons (.meth (.v 0) M_book .nil) (.cons (.v 1) .nil)))) (.cons (.ite (.not (.chain .le .le (.k (.int 0)) (.v 2) (.g 0 (.int 20)))) (.cons (.raise X_NoNumber) .nil) .nil) (.cons (.asg (.nm 3) (.v 1)) (.cons (.for (.nm 4) (.rng1 (.v 2)) [4] l_again_1) (.cons (.ret (.v 3)) .nil))))))
def f_again : TT.Fn := ⟨3, 5, false, b_again⟩
/-- is_name(text, most): 0=text 1=most 2=letter -/
def b_is_name : TT.Ss := (.cons (.ret (.bop true (.cons (.chain .le .le (.k (.int 1)) (.op true .len (.cons (.v 0) .nil)) (.v 1)) (.cons (.op true .all (.cons (.lc true [2] (.nm 2) (.txt (.v 0)) .nil (.op true .inT (.cons (.v 2) (.cons (.g 0 (.str "abcdefghijklmnopqrstuvwxyz")) .nil)))) .nil)) .nil)))) .nil)
def f_is_name : TT.Fn := ⟨2, 3, false, b_is_name⟩
/-- check_book(signs): 0=signs 1=names 2=leaves 3=name 4=kids -/
def l_check_book_1 : TT.Ss := (.cons (.ite (.bop false (.cons (.not (.call F_is_name (.cons (.v 3) (.cons (.k (.int 3)) .nil)))) (.cons (.op true .inS (.cons (.v 3) (.cons (.v 1) .nil))) (.cons (.not (.chain .le .le (.k (.int 0)) (.v 4) (.k (.int 2)))) .nil)))) (.cons (.raise X_NoBook) .nil) .nil) (.cons (.ex (.bm true .append (.v 1) (.cons (.v 3) .nil))) (.cons (.asg (.nm 2) (.op true .add (.cons (.v 2) (.cons (.op true .int (.cons (.op true .eq (.cons (.v 4) (.cons (.k (.int 0)) .nil))) .nil)) .nil)))) .nil)))
def u_check_book_1 (c : TT.Cxt) (n : Nat) (e : TT.Env) (s : TT.Sto) := TT.evSs_of c n e s l_check_book_1.eq_1
def b_check_book : TT.Ss := (.cons (.ite (.not (.chain .le .le (.k (.int 1)) (.op true .len (.cons (.v 0) .nil)) (.g 0 (.int 6)))) (.cons (.raise X_NoBook) .nil) .nil) (.cons (.asg (.nm 1) (.lst false .nil)) (.cons (.asg (.nm 2) (.k (.int 0))) (.cons (.for (.tp [3, 4]) (.seq (.v 0)) [3, 4] l_check_book_1) (.cons (.ite (.op true .eq (.cons (.v 2) (.cons (.k (.int 0)) .nil))) (.cons (.raise X_NoBook) .nil) .nil) .nil)))))
def f_check_book : TT.Fn := ⟨1, 5, false, b_check_book⟩
/-- Book.__init__(self, signs): 0=self 1=signs 2=name 3=kids -/
def b_Book___init__ : TT.Ss := (.cons (.ex (.call F_check_book (.cons (.v 1) .nil))) (.cons (.fld (.v 0) A_names_told (.lc true [2, 3] (.tp [2, 3]) (.seq (.v 1)) .nil (.v 2))) (.cons (.fld (.v 0) A_kids_told (.lc true [2, 3] (.tp [2, 3]) (.seq (.v 1)) .nil (.v 3))) .nil)))
def f_Book___init__ : TT.Fn := ⟨2, 4, false, b_Book___init__⟩
/-- Book.many(self): 0=self -/
def b_Book_many : TT.Ss := (.cons (.ret (.op true .len (.cons (.attr (.v 0) A_names_told) .nil))) .nil)
def f_Book_many : TT.Fn := ⟨1, 1, false, b_Book_many⟩
/-- Book.name(self, sign): 0=self 1=sign -/
def b_Book_name : TT.Ss := (.cons (.ret (.op true .ix (.cons (.attr (.v 0) A_names_told) (.cons (.v 1) .nil)))) .nil)
def f_Book_name : TT.Fn := ⟨2, 2, false, b_Book_name⟩
/-- Book.kids(self, sign): 0=self 1=sign -/
def b_Book_kids : TT.Ss := (.cons (.ret (.op true .ix (.cons (.attr (.v 0) A_kids_told) (.cons (.v 1) .nil)))) .nil)
def f_Book_kids : TT.Fn := ⟨2, 2, false, b_Book_kids⟩
/-- Book.number(self, name): 0=self 1=name -/
def b_Book_number : TT.Ss := (.cons (.ite (.op true .inS (.cons (.v 1) (.cons (.attr (.v 0) A_names_told) .nil))) (.cons (.ret (.bm true .index (.attr (.v 0) A_names_told) (.cons (.v 1) .nil))) .nil) .nil) (.cons (.ret (.k .non)) .nil))
def f_Book_number : TT.Fn := ⟨2, 2, false, b_Book_number⟩
/-- Book.is_like(self, book): 0=self 1=book -/
def b_Book_is_like : TT.Ss := (.cons (.ret (.bop true (.cons (.op true .eq (.cons (.attr (.v 0) A_names_told) (.cons (.attr (.v 1) A_names_told) .nil))) (.cons (.op true .eq (.cons (.attr (.v 0) A_kids_told) (.cons (.attr (.v 1) A_kids_told) .nil))) .nil)))) .nil)
def f_Book_is_like : TT.Fn := ⟨2, 2, false, b_Book_is_like⟩
/-- _law_cell(_law_script, _law_k): 0=_law_script 1=_law_k -/
def b__law_cell : TT.Ss := (.cons (.ite (.op true .lt (.cons (.v 1) (.cons (.op true .len (.cons (.v 0) .nil)) .nil))) (.cons (.ret (.op true .ix (.cons (.v 0) (.cons (.v 1) .nil)))) .nil) .nil) (.cons (.ret (.k (.int 0))) .nil))
def f__law_cell : TT.Fn := ⟨2, 2, false, b__law_cell⟩
/-- _law_mix(_law_cell_here, _law_k): 0=_law_cell_here 1=_law_k 2=_law_some 3=_law_stir -/
def b__law_mix : TT.Ss := (.cons (.asg (.nm 2) (.lst true (.cons (.k (.int 48271)) (.cons (.k (.int 69621)) (.cons (.k (.int 16807)) (.cons (.k (.int 39373)) (.cons (.k (.int 30269)) (.cons (.k (.int 40014)) (.cons (.k (.int 40692)) (.cons (.k (.int 50021)) (.cons (.k (.int 61687)) (.cons (.k (.int 71993)) (.cons (.k (.int 83869)) (.cons (.k (.int 95561)) (.cons (.k (.int 30307)) .nil))))))))))))))) (.cons (.asg (.nm 3) (.op true .mul (.cons (.op true .add (.cons (.op true .mod (.cons (.v 0) (.cons (.k (.int 2147483647)) .nil))) (.cons (.k (.int 12345)) .nil))) (.cons (.op true .ix (.cons (.v 2) (.cons (.op true .mod (.cons (.v 1) (.cons (.k (.int 13)) .nil))) .nil))) .nil)))) (.cons (.asg (.nm 3) (.op true .add (.cons (.op true .add (.cons (.v 3) (.cons (.op true .mul (.cons (.k (.int 977)) (.cons (.v 1) .nil))) .nil))) (.cons (.op true .mul (.cons (.k (.int 7919)) (.cons (.op true .fdiv (.cons (.v 1) (.cons (.k (.int 13)) .nil))) .nil))) .nil)))) (.cons (.asg (.nm 3) (.op true .mod (.cons (.v 3) (.cons (.k (.int 1000000007)) .nil)))) (.cons (.ret (.op true .fdiv (.cons (.op true .mod (.cons (.op true .add (.cons (.op true .mul (.cons (.v 3) (.cons (.v 3) .nil))) (.cons (.op true .mul (.cons (.k (.int 48271)) (.cons (.v 1) .nil))) .nil))) (.cons (.k (.int 1000000007)) .nil))) (.cons (.k (.int 7)) .nil)))) .nil)))))
def f__law_mix : TT.Fn := ⟨2, 4, false, b__law_mix⟩
/-- _law_box(_law_script, _law_k, _law_lap): 0=_law_script 1=_law_k 2=_law_lap 3=_law_cell_here 4=_law_number 5=_law_j -/
def l__law_box_1 : TT.Ss := (.cons (.asg (.nm 4) (.op true .add (.cons (.op true .mul (.cons (.v 4) (.cons (.k (.int 142857143)) .nil))) (.cons (.call F__law_mix (.cons (.v 3) (.cons (.op true .add (.cons (.op true .mul (.cons (.k (.int 90)) (.cons (.v 2) .nil))) (.cons (.v 5) .nil))) .nil))) .nil)))) .nil)
def u__law_box_1 (c : TT.Cxt) (n : Nat) (e : TT.Env) (s : TT.Sto) := TT.evSs_of c n e s l__law_box_1.eq_1
def b__law_box : TT.Ss := (.cons (.asg (.nm 3) (.call F__law_cell (.cons (.v 0) (.cons (.v 1) .nil)))) (.cons (.ite (.bop true (.cons (.op true .eq (.cons (.op true .mod (.cons (.v 3) (.cons (.k (.int 2)) .nil))) (.cons (.k (.int 0)) .nil))) (.cons (.op true .eq (.cons (.v 2) (.cons (.k (.int 0)) .nil))) .nil))) (.cons (.ret (.lst false (.cons (.op true .fdiv (.cons (.op true .abs (.cons (.v 3) .nil)) (.cons (.k (.int 2)) .nil))) .nil))) .nil) .nil) (.cons (.asg (.nm 4) (.k (.int 0))) (.cons (.for (.nm 5) (.rng1 (.k (.int 90))) [5] l__law_box_1) (.cons (.ret (.lst false (.cons (.v 4) .nil))) .nil)))))
def f__law_box : TT.Fn := ⟨3, 6, true, b__law_box⟩
/-- _law_take(_law_box_here, _law_bound): 0=_law_box_here 1=_law_bound 2=_law_left 3=_law_digit -/
def b__law_take : TT.Ss := (.cons (.asg (.tp [2, 3]) (.op true .divmod (.cons (.op true .ix (.cons (.v 0) (.cons (.k (.int 0)) .nil))) (.cons (.v 1) .nil)))) (.cons (.sub (.v 0) (.k (.int 0)) (.v 2)) (.cons (.ret (.v 3)) .nil)))
def f__law_take : TT.Fn := ⟨2, 4, false, b__law_take⟩
/-- _law_signs(_law_box_here): 0=_law_box_here 1=_law_letters 2=_law_count 3=_law_leaf 4=_law_found 5=_law_sign 6=_law_name 7=_law_kids -/
def l__law_signs_1 : TT.Ss := (.cons (.asg (.nm 6) (.op true .ix (.cons (.v 1) (.cons (.op true .mod (.cons (.op true .add (.cons (.op true .mul (.cons (.k (.int 7)) (.cons (.op true .add (.cons (.op true .mul (.cons (.k (.int 4)) (.cons (.v 5) .nil))) (.cons (.call F__law_take (.cons (.v 0) (.cons (.k (.int 4)) .nil))) .nil))) .nil))) (.cons (.k (.int 13)) .nil))) (.cons (.k (.int 26)) .nil))) .nil)))) (.cons (.ite (.op true .eq (.cons (.call F__law_take (.cons (.v 0) (.cons (.k (.int 4)) .nil))) (.cons (.k (.int 3)) .nil))) (.cons (.asg (.nm 6) (.op true .add (.cons (.v 6) (.cons (.op true .ix (.cons (.v 1) (.cons (.call F__law_take (.cons (.v 0) (.cons (.k (.int 26)) .nil))) .nil))) .nil)))) .nil) .nil) (.cons (.asg (.nm 7) (.op true .ix (.cons (.lst true (.cons (.k (.int 2)) (.cons (.k (.int 1)) (.cons (.k (.int 0)) .nil)))) (.cons (.call F__law_take (.cons (.v 0) (.cons (.k (.int 3)) .nil))) .nil)))) (.cons (.ex (.bm true .append (.v 4) (.cons (.tup (.cons (.v 6) (.cons (.op true .mul (.cons (.v 7) (.cons (.op true .int (.cons (.op true .ne (.cons (.v 5) (.cons (.v 3) .nil))) .nil)) .nil))) .nil))) .nil))) .nil))))
def u__law_signs_1 (c : TT.Cxt) (n : Nat) (e : TT.Env) (s : TT.Sto) := TT.evSs_of c n e s l__law_signs_1.eq_1
def b__law_signs : TT.Ss := (.cons (.asg (.nm 1) (.k (.str "abcdefghijklmnopqrstuvwxyz"))) (.cons (.asg (.nm 2) (.op true .add (.cons (.k (.int 2)) (.cons (.call F__law_take (.cons (.v 0) (.cons (.k (.int 5)) .nil))) .nil)))) (.cons (.asg (.nm 3) (.call F__law_take (.cons (.v 0) (.cons (.v 2) .nil)))) (.cons (.asg (.nm 4) (.lst false .nil)) (.cons (.for (.nm 5) (.rng1 (.v 2)) [5, 6, 7] l__law_signs_1) (.cons (.ret (.v 4)) .nil))))))
def f__law_signs : TT.Fn := ⟨1, 8, false, b__law_signs⟩
/-- _law_numbers(_law_signs_here): 0=_law_signs_here 1=_law_name 2=_law_kids -/
def b__law_numbers : TT.Ss := (.cons (.ret (.lc true [1, 2] (.tp [1, 2]) (.seq (.v 0)) .nil (.v 2))) .nil)
def f__law_numbers : TT.Fn := ⟨1, 3, false, b__law_numbers⟩
/-- _law_tree(_law_box_here, _law_kids, _law_most): 0=_law_box_here 1=_law_kids 2=_law_most 3=_law_row 4=_law_wanted 5=_law_some 6=_law_sign -/
def l__law_tree_1 : TT.Ss := (.cons (.asg (.nm 5) (.lc true [6] (.nm 6) (.rng1 (.op true .len (.cons (.v 1) .nil))) (.cons (.op true .le (.cons (.op true .add (.cons (.op true .add (.cons (.op true .len (.cons (.v 3) .nil)) (.cons (.v 4) .nil))) (.cons (.op true .ix (.cons (.v 1) (.cons (.v 6) .nil))) .nil))) (.cons (.v 2) .nil))) .nil) (.v 6))) (.cons (.asg (.nm 6) (.op true .ix (.cons (.v 5) (.cons (.call F__law_take (.cons (.v 0) (.cons (.op true .len (.cons (.v 5) .nil)) .nil))) .nil)))) (.cons (.ex (.bm true .append (.v 3) (.cons (.v 6) .nil))) (.cons (.asg (.nm 4) (.op true .sub (.cons (.op true .add (.cons (.v 4) (.cons (.op true .ix (.cons (.v 1) (.cons (.v 6) .nil))) .nil))) (.cons (.k (.int 1)) .nil)))) .nil))))
def u__law_tree_1 (c : TT.Cxt) (n : Nat) (e : TT.Env) (s : TT.Sto) := TT.evSs_of c n e s l__law_tree_1.eq_1
def b__law_tree : TT.Ss := (.cons (.asg (.nm 3) (.lst false .nil)) (.cons (.asg (.nm 4) (.k (.int 1))) (.cons (.whl 1000000 (.op true .gt (.cons (.v 4) (.cons (.k (.int 0)) .nil))) [5] l__law_tree_1) (.cons (.ret (.op true .tuple (.cons (.v 3) .nil))) .nil))))
def f__law_tree : TT.Fn := ⟨3, 7, false, b__law_tree⟩
/-- _law_made(_law_box_here, _law_kids, _law_goals, _law_states, _law_most): 0=_law_box_here 1=_law_kids 2=_law_goals 3=_law_states 4=_law_most 5=_law_row 6=_law_wanted 7=_law_some 8=_law_sign -/
def l__law_made_1 : TT.Ss := (.cons (.asg (.nm 7) (.lc true [8] (.nm 8) (.rng1 (.op true .len (.cons (.v 2) .nil))) (.cons (.op true .le (.cons (.op true .add (.cons (.op true .add (.cons (.op true .len (.cons (.v 5) .nil)) (.cons (.v 6) .nil))) (.cons (.op true .ix (.cons (.v 2) (.cons (.v 8) .nil))) .nil))) (.cons (.v 4) .nil))) .nil) (.v 8))) (.cons (.ite (.bop true (.cons (.op true .gt (.cons (.v 1) (.cons (.k (.int 0)) .nil))) (.cons (.op true .gt (.cons (.call F__law_take (.cons (.v 0) (.cons (.k (.int 5)) .nil))) (.cons (.k (.int 2)) .nil))) .nil))) (.cons (.ex (.bm true .append (.v 5) (.cons (.tup (.cons (.call F__law_take (.cons (.v 0) (.cons (.v 3) .nil))) (.cons (.call F__law_take (.cons (.v 0) (.cons (.v 1) .nil))) .nil))) .nil))) (.cons (.asg (.nm 6) (.op true .sub (.cons (.v 6) (.cons (.k (.int 1)) .nil)))) .nil)) (.cons (.asg (.nm 8) (.op true .ix (.cons (.v 7) (.cons (.call F__law_take (.cons (.v 0) (.cons (.op true .len (.cons (.v 7) .nil)) .nil))) .nil)))) (.cons (.ex (.bm true .append (.v 5) (.cons (.v 8) .nil))) (.cons (.asg (.nm 6) (.op true .sub (.cons (.op true .add (.cons (.v 6) (.cons (.op true .ix (.cons (.v 2) (.cons (.v 8) .nil))) .nil))) (.cons (.k (.int 1)) .nil)))) .nil)))) .nil))
def u__law_made_1 (c : TT.Cxt) (n : Nat) (e : TT.Env) (s : TT.Sto) := TT.evSs_of c n e s l__law_made_1.eq_1
def b__law_made : TT.Ss := (.cons (.asg (.nm 5) (.lst false .nil)) (.cons (.asg (.nm 6) (.k (.int 1))) (.cons (.whl 1000000 (.op true .gt (.cons (.v 6) (.cons (.k (.int 0)) .nil))) [7] l__law_made_1) (.cons (.ret (.op true .tuple (.cons (.v 5) .nil))) .nil))))
def f__law_made : TT.Fn := ⟨5, 9, false, b__law_made⟩
/-- _law_is_small(_law_turner, _law_count): 0=_law_turner 1=_law_count 2=_law_state 3=_law_sign -/
def l__law_is_small_1 : TT.Ss := (.cons (.ite (.op true .gt (.cons (.op true .max1 (.cons (.lc true [3] (.nm 3) (.rng1 (.v 1)) .nil (.op true .len (.cons (.meth (.v 0) M_row (.cons (.v 2) (.cons (.v 3) .nil))) .nil))) .nil)) (.cons (.k (.int 8)) .nil))) (.cons (.ret (.k (.bl false))) .nil) .nil) .nil)
def u__law_is_small_1 (c : TT.Cxt) (n : Nat) (e : TT.Env) (s : TT.Sto) := TT.evSs_of c n e s l__law_is_small_1.eq_1
def b__law_is_small : TT.Ss := (.cons (.for (.nm 2) (.rng1 (.meth (.v 0) M_states .nil)) [2] l__law_is_small_1) (.cons (.ret (.op true .le (.cons (.meth (.v 0) M_states .nil) (.cons (.k (.int 3)) .nil)))) .nil))
def f__law_is_small : TT.Fn := ⟨2, 4, false, b__law_is_small⟩
/-- _law_powers(_law_turner, _law_book, _law_count): 0=_law_turner 1=_law_book 2=_law_count 3=_law_found 4=_law_fresh 5=_law_last -/
def l__law_powers_1 : TT.Ss := (.cons (.asg (.nm 5) (.v 4)) (.cons (.asg (.nm 4) (.ask (.call F_behind (.cons (.v 5) (.cons (.v 0) .nil))))) (.cons (.ite (.op true (.isCls C_Turner) (.cons (.v 4) .nil)) (.cons (.ex (.bm true .append (.v 3) (.cons (.v 4) .nil))) .nil) .nil) .nil)))
def u__law_powers_1 (c : TT.Cxt) (n : Nat) (e : TT.Env) (s : TT.Sto) := TT.evSs_of c n e s l__law_powers_1.eq_1
def b__law_powers : TT.Ss := (.cons (.asg (.nm 3) (.lst false (.cons (.fz (.call F_idle (.cons (.v 1) .nil))) .nil))) (.cons (.asg (.nm 4) (.op true .ix (.cons (.v 3) (.cons (.k (.int 0)) .nil)))) (.cons (.whl 1000000 (.bop true (.cons (.op true .lt (.cons (.op true .len (.cons (.v 3) .nil)) (.cons (.k (.int 5)) .nil))) (.cons (.op true (.isCls C_Turner) (.cons (.v 4) .nil)) (.cons (.call F__law_is_small (.cons (.v 4) (.cons (.v 2) .nil))) .nil)))) [5] l__law_powers_1) (.cons (.ret (.v 3)) .nil))))
def f__law_powers : TT.Fn := ⟨3, 6, false, b__law_powers⟩
/-- _law_tree_right(_law_box_here, _law_book, _law_turner, _law_powers_here, _law_tree_here): 0=_law_box_here 1=_law_book 2=_law_turner 3=_law_powers_here 4=_law_tree_here 5=_law_times 6=_law_middle 7=_law_both 8=_law_due 9=_law_power 10=_law_told 11=_law_one 12=_law_more 13=_law_place -/
def l__law_tree_right_1 : TT.Ss := (.cons (.asg (.nm 8) (.ask (.call F_again (.cons (.v 2) (.cons (.v 4) (.cons (.v 5) .nil)))))) (.cons (.asg (.nm 9) (.op true .ix (.cons (.v 3) (.cons (.v 5) .nil)))) (.cons (.asg (.nm 10) (.ask (.call F_turned (.cons (.v 9) (.cons (.v 4) .nil))))) (.cons (.ite (.bop true (.cons (.op true .ne (.cons (.v 8) (.cons (.k (.str "great")) .nil))) (.cons (.bop false (.cons (.op true .ne (.cons (.v 10) (.cons (.v 8) .nil))) (.cons (.op true .ne (.cons (.call F_size_turned (.cons (.v 9) (.cons (.v 4) .nil))) (.cons (.op true .len (.cons (.v 8) .nil)) .nil))) .nil))) .nil))) (.cons (.ret (.k (.bl false))) .nil) .nil) .nil))))
def u__law_tree_right_1 (c : TT.Cxt) (n : Nat) (e : TT.Env) (s : TT.Sto) := TT.evSs_of c n e s l__law_tree_right_1.eq_1
def b__law_tree_right : TT.Ss := (.cons (.for (.nm 5) (.rng1 (.op true .len (.cons (.v 3) .nil))) [5, 8, 9, 10] l__law_tree_right_1) (.cons (.asg (.tp [11, 12]) (.tup (.cons (.call F__law_take (.cons (.v 0) (.cons (.k (.int 6)) .nil))) (.cons (.call F__law_take (.cons (.v 0) (.cons (.k (.int 6)) .nil))) .nil)))) (.cons (.asg (.nm 6) (.ask (.call F_again (.cons (.v 2) (.cons (.v 4) (.cons (.v 11) .nil)))))) (.cons (.ite (.bop false (.cons (.op true .eq (.cons (.v 6) (.cons (.k (.str "great")) .nil))) (.cons (.op true .gt (.cons (.op true .len (.cons (.v 6) .nil)) (.cons (.k (.int 40)) .nil))) .nil))) (.cons (.ret (.k (.bl true))) .nil) .nil) (.cons (.asg (.nm 7) (.ask (.call F_again (.cons (.v 2) (.cons (.v 4) (.cons (.op true .add (.cons (.v 11) (.cons (.v 12) .nil))) .nil)))))) (.cons (.ite (.op true .ne (.cons (.ask (.call F_again (.cons (.v 2) (.cons (.v 6) (.cons (.v 12) .nil))))) (.cons (.v 7) .nil))) (.cons (.ret (.k (.bl false))) .nil) .nil) (.cons (.asg (.nm 8) (.ask (.call F_again (.cons (.v 2) (.cons (.v 6) (.cons (.k (.int 1)) .nil)))))) (.cons (.ite (.bop false (.cons (.op true .eq (.cons (.v 8) (.cons (.k (.str "great")) .nil))) (.cons (.op true .gt (.cons (.op true .len (.cons (.v 8) .nil)) (.cons (.k (.int 40)) .nil))) .nil))) (.cons (.ret (.k (.bl true))) .nil) .nil) (.cons (.ret (.op true .all (.cons (.lc true [13] (.nm 13) (.seq (.call F_places (.cons (.v 1) (.cons (.v 8) .nil)))) .nil (.op true .eq (.cons (.call F_part_turned (.cons (.v 2) (.cons (.v 6) (.cons (.v 13) .nil)))) (.cons (.call F_at (.cons (.v 1) (.cons (.v 8) (.cons (.v 13) .nil)))) .nil)))) .nil))) .nil)))))))))
def f__law_tree_right : TT.Fn := ⟨5, 14, false, b__law_tree_right⟩
/-- _law_right(_law_box_here): 0=_law_box_here 1=_law_signs_here 2=_law_kids 3=_law_book 4=_law_states 5=_law_most 6=_law_rows 7=_law_turner 8=_law_powers_here 9=_law_turn 10=_law_state 11=_law_count -/
def l__law_right_1 : TT.Ss := (.cons (.ite (.not (.call F__law_tree_right (.cons (.v 0) (.cons (.v 3) (.cons (.v 7) (.cons (.v 8) (.cons (.call F__law_tree (.cons (.v 0) (.cons (.v 2) (.cons (.op true .add (.cons (.k (.int 1)) (.cons (.call F__law_take (.cons (.v 0) (.cons (.k (.int 8)) .nil))) .nil))) .nil)))) .nil))))))) (.cons (.ret (.k (.bl false))) .nil) .nil) .nil)
def u__law_right_1 (c : TT.Cxt) (n : Nat) (e : TT.Env) (s : TT.Sto) := TT.evSs_of c n e s l__law_right_1.eq_1
def b__law_right : TT.Ss := (.cons (.asg (.nm 1) (.call F__law_signs (.cons (.v 0) .nil))) (.cons (.asg (.nm 2) (.call F__law_numbers (.cons (.v 1) .nil))) (.cons (.asg (.nm 3) (.new true C_Book (.cons (.v 1) .nil))) (.cons (.asg (.nm 4) (.op true .add (.cons (.k (.int 1)) (.cons (.call F__law_take (.cons (.v 0) (.cons (.k (.int 2)) .nil))) .nil)))) (.cons (.asg (.nm 5) (.op true .add (.cons (.k (.int 1)) (.cons (.call F__law_take (.cons (.v 0) (.cons (.k (.int 4)) .nil))) .nil)))) (.cons (.asg (.nm 6) (.lc true [10] (.nm 10) (.rng1 (.v 4)) .nil (.lc true [11] (.nm 11) (.seq (.v 2)) .nil (.call F__law_made (.cons (.v 0) (.cons (.v 11) (.cons (.v 2) (.cons (.v 4) (.cons (.v 5) .nil))))))))) (.cons (.asg (.nm 7) (.new true C_Turner (.cons (.v 3) (.cons (.v 3) (.cons (.v 6) .nil))))) (.cons (.asg (.nm 8) (.call F__law_powers (.cons (.v 7) (.cons (.v 3) (.cons (.op true .len (.cons (.v 2) .nil)) .nil))))) (.cons (.for (.nm 9) (.rng1 (.k (.int 5))) [9] l__law_right_1) (.cons (.ret (.k (.bl true))) .nil))))))))))
def f__law_right : TT.Fn := ⟨1, 12, false, b__law_right⟩
/-- law(_law_script): 0=_law_script 1=_law_k 2=_law_lap -/
def l_law_1 : TT.Ss := (.cons (.ite (.not (.call F__law_right (.cons (.call F__law_box (.cons (.v 0) (.cons (.v 1) (.cons (.v 2) .nil)))) .nil))) (.cons (.ret (.k (.bl false))) .nil) .nil) .nil)
def u_law_1 (c : TT.Cxt) (n : Nat) (e : TT.Env) (s : TT.Sto) := TT.evSs_of c n e s l_law_1.eq_1
def l_law_2 : TT.Ss := (.cons (.for (.nm 2) (.rng1 (.k (.int 2))) [2] l_law_1) .nil)
def u_law_2 (c : TT.Cxt) (n : Nat) (e : TT.Env) (s : TT.Sto) := TT.evSs_of c n e s l_law_2.eq_1
def b_law : TT.Ss := (.cons (.for (.nm 1) (.rng1 (.op true .max2 (.cons (.k (.int 1)) (.cons (.op true .min2 (.cons (.op true .len (.cons (.v 0) .nil)) (.cons (.k (.int 3)) .nil))) .nil)))) [1, 2] l_law_2) (.cons (.ret (.k (.bl true))) .nil))
def f_law : TT.Fn := ⟨1, 3, false, b_law⟩
def fns : List TT.Fn := [f_end_of, f_is_tree, f_check_tree, f_places_in, f_places, f_start_of, f_at, f_is_made_row, f_Turner___init__, f_Turner_book, f_Turner_goals, f_Turner_states, f_Turner_row, f_Turner_with_rows, f_idle, f_folded, f_all_folded, f_Through___init__, f_Through_of_row, f_Through_lead, f_Sizes_lead, f_Built___init__, f_Built_lead, f_told_row, f_turned_by, f_turned, f_size_turned, f_kid_places, f_row_end, f_Walk___init__, f_Walk_go_in, f_Walk_go_down, f_Walk_part, f_part_turned, f_must_be_like, f_Behind___init__, f_Behind_made_row, f_behind, f_numbered, f_again, f_is_name, f_check_book, f_Book___init__, f_Book_many, f_Book_name, f_Book_kids, f_Book_number, f_Book_is_like, f__law_cell, f__law_mix, f__law_box, f__law_take, f__law_signs, f__law_numbers, f__law_tree, f__law_made, f__law_is_small, f__law_powers, f__law_tree_right, f__law_right, f_law]
def prog : TT.Prog := ⟨fns, [(0, 0, 9), (0, 1, 10), (0, 2, 11), (0, 3, 12), (0, 4, 13), (1, 5, 18), (1, 6, 19), (2, 6, 20), (3, 6, 22), (4, 7, 30), (4, 8, 31), (4, 9, 32), (5, 10, 36), (6, 11, 43), (6, 12, 44), (6, 13, 45), (6, 14, 46), (6, 15, 47)], [(0, 8), (1, 17), (3, 21), (4, 29), (5, 35), (6, 42)], [(1, "book"), (2, "tree"), (3, "place"), (4, "reader"), (5, "unlike"), (6, "great"), (7, "guesser"), (8, "pattern"), (9, "number"), (10, "turner"), (11, "text"), (12, "line"), (13, "name"), (14, "nothing")]⟩
@[simp] theorem m_Turner_book : prog.meth C_Turner M_book = some F_Turner_book := (rfl)
@[simp] theorem m_Turner_goals : prog.meth C_Turner M_goals = some F_Turner_goals := (rfl)
@[simp] theorem m_Turner_states : prog.meth C_Turner M_states = some F_Turner_states := (rfl)
@[simp] theorem m_Turner_row : prog.meth C_Turner M_row = some F_Turner_row := (rfl)
@[simp] theorem m_Turner_with_rows : prog.meth C_Turner M_with_rows = some F_Turner_with_rows := (rfl)
@[simp] theorem m_Through_of_row : prog.meth C_Through M_of_row = some F_Through_of_row := (rfl)
@[simp] theorem m_Through_lead : prog.meth C_Through M_lead = some F_Through_lead := (rfl)
@[simp] theorem m_Sizes_lead : prog.meth C_Sizes M_lead = some F_Sizes_lead := (rfl)
@[simp] theorem m_Built_lead : prog.meth C_Built M_lead = some F_Built_lead := (rfl)
@[simp] theorem m_Walk_go_in : prog.meth C_Walk M_go_in = some F_Walk_go_in := (rfl)
@[simp] theorem m_Walk_go_down : prog.meth C_Walk M_go_down = some F_Walk_go_down := (rfl)
@[simp] theorem m_Walk_part : prog.meth C_Walk M_part = some F_Walk_part := (rfl)
@[simp] theorem m_Behind_made_row : prog.meth C_Behind M_made_row = some F_Behind_made_row := (rfl)
@[simp] theorem m_Book_many : prog.meth C_Book M_many = some F_Book_many := (rfl)
@[simp] theorem m_Book_name : prog.meth C_Book M_name = some F_Book_name := (rfl)
@[simp] theorem m_Book_kids : prog.meth C_Book M_kids = some F_Book_kids := (rfl)
@[simp] theorem m_Book_number : prog.meth C_Book M_number = some F_Book_number := (rfl)
@[simp] theorem m_Book_is_like : prog.meth C_Book M_is_like = some F_Book_is_like := (rfl)
@[simp] theorem i_Turner : prog.init C_Turner = some F_Turner___init__ := (rfl)
@[simp] theorem i_Through : prog.init C_Through = some F_Through___init__ := (rfl)
@[simp] theorem i_Built : prog.init C_Built = some F_Built___init__ := (rfl)
@[simp] theorem i_Walk : prog.init C_Walk = some F_Walk___init__ := (rfl)
@[simp] theorem i_Behind : prog.init C_Behind = some F_Behind___init__ := (rfl)
@[simp] theorem i_Book : prog.init C_Book = some F_Book___init__ := (rfl)
@[simp] theorem w_NoBook : prog.words.lookup X_NoBook = some ("book" : PySem.Str) := by decide +kernel
@[simp] theorem w_NoTree : prog.words.lookup X_NoTree = some ("tree" : PySem.Str) := by decide +kernel
@[simp] theorem w_NoPlace : prog.words.lookup X_NoPlace = some ("place" : PySem.Str) := by decide +kernel
@[simp] theorem w_NoReader : prog.words.lookup X_NoReader = some ("reader" : PySem.Str) := by decide +kernel
@[simp] theorem w_Unlike : prog.words.lookup X_Unlike = some ("unlike" : PySem.Str) := by decide +kernel
@[simp] theorem w_TooGreat : prog.words.lookup X_TooGreat = some ("great" : PySem.Str) := by decide +kernel
@[simp] theorem w_NoGuesser : prog.words.lookup X_NoGuesser = some ("guesser" : PySem.Str) := by decide +kernel
@[simp] theorem w_NoPattern : prog.words.lookup X_NoPattern = some ("pattern" : PySem.Str) := by decide +kernel
@[simp] theorem w_NoNumber : prog.words.lookup X_NoNumber = some ("number" : PySem.Str) := by decide +kernel
@[simp] theorem w_NoTurner : prog.words.lookup X_NoTurner = some ("turner" : PySem.Str) := by decide +kernel
@[simp] theorem w_NoText : prog.words.lookup X_NoText = some ("text" : PySem.Str) := by decide +kernel
@[simp] theorem w_NoLine : prog.words.lookup X_NoLine = some ("line" : PySem.Str) := by decide +kernel
@[simp] theorem w_NoName : prog.words.lookup X_NoName = some ("name" : PySem.Str) := by decide +kernel
@[simp] theorem w_Nothing : prog.words.lookup X_Nothing = some ("nothing" : PySem.Str) := by decide +kernel
theorem at_end_of (k : Nat) (ws : List TT.W) (s : TT.Sto) : TT.call prog (k + 1) F_end_of ws s = TT.runN 3 5 false (TT.cx prog k) b_end_of ws s := TT.call_at rfl k ws s
theorem at_is_tree (k : Nat) (ws : List TT.W) (s : TT.Sto) : TT.call prog (k + 1) F_is_tree ws s = TT.runN 2 2 false (TT.cx prog k) b_is_tree ws s := TT.call_at rfl k ws s
theorem at_check_tree (k : Nat) (ws : List TT.W) (s : TT.Sto) : TT.call prog (k + 1) F_check_tree ws s = TT.runN 2 2 false (TT.cx prog k) b_check_tree ws s := TT.call_at rfl k ws s
theorem at_places_in (k : Nat) (ws : List TT.W) (s : TT.Sto) : TT.call prog (k + 1) F_places_in ws s = TT.runN 2 8 false (TT.cx prog k) b_places_in ws s := TT.call_at rfl k ws s
theorem at_places (k : Nat) (ws : List TT.W) (s : TT.Sto) : TT.call prog (k + 1) F_places ws s = TT.runN 2 4 false (TT.cx prog k) b_places ws s := TT.call_at rfl k ws s
theorem at_start_of (k : Nat) (ws : List TT.W) (s : TT.Sto) : TT.call prog (k + 1) F_start_of ws s = TT.runN 3 5 false (TT.cx prog k) b_start_of ws s := TT.call_at rfl k ws s
theorem at_at (k : Nat) (ws : List TT.W) (s : TT.Sto) : TT.call prog (k + 1) F_at ws s = TT.runN 3 4 false (TT.cx prog k) b_at ws s := TT.call_at rfl k ws s
theorem at_is_made_row (k : Nat) (ws : List TT.W) (s : TT.Sto) : TT.call prog (k + 1) F_is_made_row ws s = TT.runN 4 6 false (TT.cx prog k) b_is_made_row ws s := TT.call_at rfl k ws s
theorem at_Turner___init__ (k : Nat) (ws : List TT.W) (s : TT.Sto) : TT.call prog (k + 1) F_Turner___init__ ws s = TT.runN 4 7 false (TT.cx prog k) b_Turner___init__ ws s := TT.call_at rfl k ws s
theorem at_Turner_book (k : Nat) (ws : List TT.W) (s : TT.Sto) : TT.call prog (k + 1) F_Turner_book ws s = TT.runN 1 1 false (TT.cx prog k) b_Turner_book ws s := TT.call_at rfl k ws s
theorem at_Turner_goals (k : Nat) (ws : List TT.W) (s : TT.Sto) : TT.call prog (k + 1) F_Turner_goals ws s = TT.runN 1 1 false (TT.cx prog k) b_Turner_goals ws s := TT.call_at rfl k ws s
theorem at_Turner_states (k : Nat) (ws : List TT.W) (s : TT.Sto) : TT.call prog (k + 1) F_Turner_states ws s = TT.runN 1 1 false (TT.cx prog k) b_Turner_states ws s := TT.call_at rfl k ws s
theorem at_Turner_row (k : Nat) (ws : List TT.W) (s : TT.Sto) : TT.call prog (k + 1) F_Turner_row ws s = TT.runN 3 3 false (TT.cx prog k) b_Turner_row ws s := TT.call_at rfl k ws s
theorem at_Turner_with_rows (k : Nat) (ws : List TT.W) (s : TT.Sto) : TT.call prog (k + 1) F_Turner_with_rows ws s = TT.runN 3 3 true (TT.cx prog k) b_Turner_with_rows ws s := TT.call_at rfl k ws s
theorem at_idle (k : Nat) (ws : List TT.W) (s : TT.Sto) : TT.call prog (k + 1) F_idle ws s = TT.runN 1 4 true (TT.cx prog k) b_idle ws s := TT.call_at rfl k ws s
theorem at_folded (k : Nat) (ws : List TT.W) (s : TT.Sto) : TT.call prog (k + 1) F_folded ws s = TT.runN 4 8 false (TT.cx prog k) b_folded ws s := TT.call_at rfl k ws s
theorem at_all_folded (k : Nat) (ws : List TT.W) (s : TT.Sto) : TT.call prog (k + 1) F_all_folded ws s = TT.runN 3 8 false (TT.cx prog k) b_all_folded ws s := TT.call_at rfl k ws s
theorem at_Through___init__ (k : Nat) (ws : List TT.W) (s : TT.Sto) : TT.call prog (k + 1) F_Through___init__ ws s = TT.runN 3 3 false (TT.cx prog k) b_Through___init__ ws s := TT.call_at rfl k ws s
theorem at_Through_of_row (k : Nat) (ws : List TT.W) (s : TT.Sto) : TT.call prog (k + 1) F_Through_of_row ws s = TT.runN 3 8 false (TT.cx prog k) b_Through_of_row ws s := TT.call_at rfl k ws s
theorem at_Through_lead (k : Nat) (ws : List TT.W) (s : TT.Sto) : TT.call prog (k + 1) F_Through_lead ws s = TT.runN 3 5 false (TT.cx prog k) b_Through_lead ws s := TT.call_at rfl k ws s
theorem at_Sizes_lead (k : Nat) (ws : List TT.W) (s : TT.Sto) : TT.call prog (k + 1) F_Sizes_lead ws s = TT.runN 3 3 false (TT.cx prog k) b_Sizes_lead ws s := TT.call_at rfl k ws s
theorem at_Built___init__ (k : Nat) (ws : List TT.W) (s : TT.Sto) : TT.call prog (k + 1) F_Built___init__ ws s = TT.runN 2 2 false (TT.cx prog k) b_Built___init__ ws s := TT.call_at rfl k ws s
theorem at_Built_lead (k : Nat) (ws : List TT.W) (s : TT.Sto) : TT.call prog (k + 1) F_Built_lead ws s = TT.runN 3 6 false (TT.cx prog k) b_Built_lead ws s := TT.call_at rfl k ws s
theorem at_told_row (k : Nat) (ws : List TT.W) (s : TT.Sto) : TT.call prog (k + 1) F_told_row ws s = TT.runN 1 1 false (TT.cx prog k) b_told_row ws s := TT.call_at rfl k ws s
theorem at_turned_by (k : Nat) (ws : List TT.W) (s : TT.Sto) : TT.call prog (k + 1) F_turned_by ws s = TT.runN 2 2 false (TT.cx prog k) b_turned_by ws s := TT.call_at rfl k ws s
theorem at_turned (k : Nat) (ws : List TT.W) (s : TT.Sto) : TT.call prog (k + 1) F_turned ws s = TT.runN 2 2 false (TT.cx prog k) b_turned ws s := TT.call_at rfl k ws s
theorem at_size_turned (k : Nat) (ws : List TT.W) (s : TT.Sto) : TT.call prog (k + 1) F_size_turned ws s = TT.runN 2 2 false (TT.cx prog k) b_size_turned ws s := TT.call_at rfl k ws s
theorem at_kid_places (k : Nat) (ws : List TT.W) (s : TT.Sto) : TT.call prog (k + 1) F_kid_places ws s = TT.runN 2 7 false (TT.cx prog k) b_kid_places ws s := TT.call_at rfl k ws s
theorem at_row_end (k : Nat) (ws : List TT.W) (s : TT.Sto) : TT.call prog (k + 1) F_row_end ws s = TT.runN 3 5 false (TT.cx prog k) b_row_end ws s := TT.call_at rfl k ws s
theorem at_Walk___init__ (k : Nat) (ws : List TT.W) (s : TT.Sto) : TT.call prog (k + 1) F_Walk___init__ ws s = TT.runN 3 3 false (TT.cx prog k) b_Walk___init__ ws s := TT.call_at rfl k ws s
theorem at_Walk_go_in (k : Nat) (ws : List TT.W) (s : TT.Sto) : TT.call prog (k + 1) F_Walk_go_in ws s = TT.runN 1 3 false (TT.cx prog k) b_Walk_go_in ws s := TT.call_at rfl k ws s
theorem at_Walk_go_down (k : Nat) (ws : List TT.W) (s : TT.Sto) : TT.call prog (k + 1) F_Walk_go_down ws s = TT.runN 2 4 false (TT.cx prog k) b_Walk_go_down ws s := TT.call_at rfl k ws s
theorem at_Walk_part (k : Nat) (ws : List TT.W) (s : TT.Sto) : TT.call prog (k + 1) F_Walk_part ws s = TT.runN 1 6 false (TT.cx prog k) b_Walk_part ws s := TT.call_at rfl k ws s
theorem at_part_turned (k : Nat) (ws : List TT.W) (s : TT.Sto) : TT.call prog (k + 1) F_part_turned ws s = TT.runN 3 5 false (TT.cx prog k) b_part_turned ws s := TT.call_at rfl k ws s
theorem at_must_be_like (k : Nat) (ws : List TT.W) (s : TT.Sto) : TT.call prog (k + 1) F_must_be_like ws s = TT.runN 2 2 false (TT.cx prog k) b_must_be_like ws s := TT.call_at rfl k ws s
theorem at_Behind___init__ (k : Nat) (ws : List TT.W) (s : TT.Sto) : TT.call prog (k + 1) F_Behind___init__ ws s = TT.runN 2 2 false (TT.cx prog k) b_Behind___init__ ws s := TT.call_at rfl k ws s
theorem at_Behind_made_row (k : Nat) (ws : List TT.W) (s : TT.Sto) : TT.call prog (k + 1) F_Behind_made_row ws s = TT.runN 4 7 false (TT.cx prog k) b_Behind_made_row ws s := TT.call_at rfl k ws s
theorem at_behind (k : Nat) (ws : List TT.W) (s : TT.Sto) : TT.call prog (k + 1) F_behind ws s = TT.runN 2 12 false (TT.cx prog k) b_behind ws s := TT.call_at rfl k ws s
theorem at_numbered (k : Nat) (ws : List TT.W) (s : TT.Sto) : TT.call prog (k + 1) F_numbered ws s = TT.runN 2 4 false (TT.cx prog k) b_numbered ws s := TT.call_at rfl k ws s
theorem at_again (k : Nat) (ws : List TT.W) (s : TT.Sto) : TT.call prog (k + 1) F_again ws s = TT.runN 3 5 false (TT.cx prog k) b_again ws s := TT.call_at rfl k ws s
theorem at_is_name (k : Nat) (ws : List TT.W) (s : TT.Sto) : TT.call prog (k + 1) F_is_name ws s = TT.runN 2 3 false (TT.cx prog k) b_is_name ws s := TT.call_at rfl k ws s
theorem at_check_book (k : Nat) (ws : List TT.W) (s : TT.Sto) : TT.call prog (k + 1) F_check_book ws s = TT.runN 1 5 false (TT.cx prog k) b_check_book ws s := TT.call_at rfl k ws s
theorem at_Book___init__ (k : Nat) (ws : List TT.W) (s : TT.Sto) : TT.call prog (k + 1) F_Book___init__ ws s = TT.runN 2 4 false (TT.cx prog k) b_Book___init__ ws s := TT.call_at rfl k ws s
theorem at_Book_many (k : Nat) (ws : List TT.W) (s : TT.Sto) : TT.call prog (k + 1) F_Book_many ws s = TT.runN 1 1 false (TT.cx prog k) b_Book_many ws s := TT.call_at rfl k ws s
theorem at_Book_name (k : Nat) (ws : List TT.W) (s : TT.Sto) : TT.call prog (k + 1) F_Book_name ws s = TT.runN 2 2 false (TT.cx prog k) b_Book_name ws s := TT.call_at rfl k ws s
theorem at_Book_kids (k : Nat) (ws : List TT.W) (s : TT.Sto) : TT.call prog (k + 1) F_Book_kids ws s = TT.runN 2 2 false (TT.cx prog k) b_Book_kids ws s := TT.call_at rfl k ws s
theorem at_Book_number (k : Nat) (ws : List TT.W) (s : TT.Sto) : TT.call prog (k + 1) F_Book_number ws s = TT.runN 2 2 false (TT.cx prog k) b_Book_number ws s := TT.call_at rfl k ws s
theorem at_Book_is_like (k : Nat) (ws : List TT.W) (s : TT.Sto) : TT.call prog (k + 1) F_Book_is_like ws s = TT.runN 2 2 false (TT.cx prog k) b_Book_is_like ws s := TT.call_at rfl k ws s
theorem at__law_cell (k : Nat) (ws : List TT.W) (s : TT.Sto) : TT.call prog (k + 1) F__law_cell ws s = TT.runN 2 2 false (TT.cx prog k) b__law_cell ws s := TT.call_at rfl k ws s
theorem at__law_mix (k : Nat) (ws : List TT.W) (s : TT.Sto) : TT.call prog (k + 1) F__law_mix ws s = TT.runN 2 4 false (TT.cx prog k) b__law_mix ws s := TT.call_at rfl k ws s
theorem at__law_box (k : Nat) (ws : List TT.W) (s : TT.Sto) : TT.call prog (k + 1) F__law_box ws s = TT.runN 3 6 true (TT.cx prog k) b__law_box ws s := TT.call_at rfl k ws s
theorem at__law_take (k : Nat) (ws : List TT.W) (s : TT.Sto) : TT.call prog (k + 1) F__law_take ws s = TT.runN 2 4 false (TT.cx prog k) b__law_take ws s := TT.call_at rfl k ws s
theorem at__law_signs (k : Nat) (ws : List TT.W) (s : TT.Sto) : TT.call prog (k + 1) F__law_signs ws s = TT.runN 1 8 false (TT.cx prog k) b__law_signs ws s := TT.call_at rfl k ws s
theorem at__law_numbers (k : Nat) (ws : List TT.W) (s : TT.Sto) : TT.call prog (k + 1) F__law_numbers ws s = TT.runN 1 3 false (TT.cx prog k) b__law_numbers ws s := TT.call_at rfl k ws s
theorem at__law_tree (k : Nat) (ws : List TT.W) (s : TT.Sto) : TT.call prog (k + 1) F__law_tree ws s = TT.runN 3 7 false (TT.cx prog k) b__law_tree ws s := TT.call_at rfl k ws s
theorem at__law_made (k : Nat) (ws : List TT.W) (s : TT.Sto) : TT.call prog (k + 1) F__law_made ws s = TT.runN 5 9 false (TT.cx prog k) b__law_made ws s := TT.call_at rfl k ws s
theorem at__law_is_small (k : Nat) (ws : List TT.W) (s : TT.Sto) : TT.call prog (k + 1) F__law_is_small ws s = TT.runN 2 4 false (TT.cx prog k) b__law_is_small ws s := TT.call_at rfl k ws s
theorem at__law_powers (k : Nat) (ws : List TT.W) (s : TT.Sto) : TT.call prog (k + 1) F__law_powers ws s = TT.runN 3 6 false (TT.cx prog k) b__law_powers ws s := TT.call_at rfl k ws s
theorem at__law_tree_right (k : Nat) (ws : List TT.W) (s : TT.Sto) : TT.call prog (k + 1) F__law_tree_right ws s = TT.runN 5 14 false (TT.cx prog k) b__law_tree_right ws s := TT.call_at rfl k ws s
theorem at__law_right (k : Nat) (ws : List TT.W) (s : TT.Sto) : TT.call prog (k + 1) F__law_right ws s = TT.runN 1 12 false (TT.cx prog k) b__law_right ws s := TT.call_at rfl k ws s
theorem at_law (k : Nat) (ws : List TT.W) (s : TT.Sto) : TT.call prog (k + 1) F_law ws s = TT.runN 1 3 false (TT.cx prog k) b_law ws s := TT.call_at rfl k ws s
end G

namespace G
open PySem PySem.Spec PyProof.Rows L2 TS
def top (i : Nat) : Stmt := PySem.Challenge.pw_treehands_k50_whole_again_and_behind.main.body.getD i (.Pass ⟨0, 0, 0, 0⟩)
abbrev s0 : Stmt := top 18
def e0 : DefS := ⟨⟨("end_of", none), "end_of", "end_of", defArgs s0, defBody s0, defScope s0, [], []⟩, [("book" : Str), ("row" : Str), ("start" : Str), ("wanted" : Str), ("spot" : Str)], false⟩
abbrev s1 : Stmt := top 19
def e1 : DefS := ⟨⟨("is_tree", none), "is_tree", "is_tree", defArgs s1, defBody s1, defScope s1, [], []⟩, [("book" : Str), ("tree" : Str)], false⟩
abbrev s2 : Stmt := top 20
def e2 : DefS := ⟨⟨("check_tree", none), "check_tree", "check_tree", defArgs s2, defBody s2, defScope s2, [], []⟩, [("book" : Str), ("tree" : Str)], false⟩
abbrev s3 : Stmt := top 21
def e3 : DefS := ⟨⟨("places_in", none), "places_in", "places_in", defArgs s3, defBody s3, defScope s3, [], []⟩, [("book" : Str), ("row" : Str), ("found" : Str), ("spot" : Str), ("stop" : Str), ("kid" : Str), ("place" : Str), ("start" : Str)], false⟩
abbrev s4 : Stmt := top 22
def e4 : DefS := ⟨⟨("places", none), "places", "places", defArgs s4, defBody s4, defScope s4, [], []⟩, [("book" : Str), ("tree" : Str), ("place" : Str), ("start" : Str)], false⟩
abbrev s5 : Stmt := top 23
def e5 : DefS := ⟨⟨("start_of", none), "start_of", "start_of", defArgs s5, defBody s5, defScope s5, [], []⟩, [("book" : Str), ("tree" : Str), ("place" : Str), ("one" : Str), ("start" : Str)], false⟩
abbrev s6 : Stmt := top 24
def e6 : DefS := ⟨⟨("at", none), "at", "at", defArgs s6, defBody s6, defScope s6, [], []⟩, [("book" : Str), ("tree" : Str), ("place" : Str), ("start" : Str)], false⟩
abbrev s7 : Stmt := top 31
def e7 : DefS := ⟨⟨("is_made_row", none), "is_made_row", "is_made_row", defArgs s7, defBody s7, defScope s7, [], []⟩, [("goals" : Str), ("states" : Str), ("kids" : Str), ("row" : Str), ("lacks" : Str), ("item" : Str)], false⟩
abbrev s8 : Stmt := inClass (top 32) 0
def e8 : DefS := ⟨⟨("Turner", some "__init__"), "__init__", "Turner.__init__", defArgs s8, defBody s8, defScope s8, [], []⟩, [("self" : Str), ("book" : Str), ("goals" : Str), ("rows" : Str), ("some" : Str), ("sign" : Str), ("row" : Str)], false⟩
abbrev s9 : Stmt := inClass (top 32) 1
def e9 : DefS := ⟨⟨("Turner", some "book"), "book", "Turner.book", defArgs s9, defBody s9, defScope s9, [], []⟩, [("self" : Str)], false⟩
abbrev s10 : Stmt := inClass (top 32) 2
def e10 : DefS := ⟨⟨("Turner", some "goals"), "goals", "Turner.goals", defArgs s10, defBody s10, defScope s10, [], []⟩, [("self" : Str)], false⟩
abbrev s11 : Stmt := inClass (top 32) 3
def e11 : DefS := ⟨⟨("Turner", some "states"), "states", "Turner.states", defArgs s11, defBody s11, defScope s11, [], []⟩, [("self" : Str)], false⟩
abbrev s12 : Stmt := inClass (top 32) 4
def e12 : DefS := ⟨⟨("Turner", some "row"), "row", "Turner.row", defArgs s12, defBody s12, defScope s12, [], []⟩, [("self" : Str), ("state" : Str), ("sign" : Str)], false⟩
abbrev s13 : Stmt := inClass (top 32) 5
def e13 : DefS := ⟨⟨("Turner", some "with_rows"), "with_rows", "Turner.with_rows", defArgs s13, defBody s13, defScope s13, [], []⟩, [("self" : Str), ("goals" : Str), ("rows" : Str)], false⟩
abbrev s14 : Stmt := top 33
def e14 : DefS := ⟨⟨("idle", none), "idle", "idle", defArgs s14, defBody s14, defScope s14, [], []⟩, [("book" : Str), ("rows" : Str), ("sign" : Str), ("kid" : Str)], false⟩
abbrev s15 : Stmt := top 34
def e15 : DefS := ⟨⟨("folded", none), "folded", "folded", defArgs s15, defBody s15, defScope s15, [], []⟩, [("book" : Str), ("row" : Str), ("hand" : Str), ("given" : Str), ("waiting" : Str), ("item" : Str), ("kids" : Str), ("kid" : Str)], false⟩
abbrev s16 : Stmt := top 35
def e16 : DefS := ⟨⟨("all_folded", none), "all_folded", "all_folded", defArgs s16, defBody s16, defScope s16, [], []⟩, [("book" : Str), ("tree" : Str), ("hand" : Str), ("found" : Str), ("waiting" : Str), ("sign" : Str), ("kids" : Str), ("kid" : Str)], false⟩
abbrev s17 : Stmt := inClass (top 36) 0
def e17 : DefS := ⟨⟨("Through", some "__init__"), "__init__", "Through.__init__", defArgs s17, defBody s17, defScope s17, [], []⟩, [("self" : Str), ("turner" : Str), ("inner" : Str)], false⟩
abbrev s18 : Stmt := inClass (top 36) 1
def e18 : DefS := ⟨⟨("Through", some "of_row"), "of_row", "Through.of_row", defArgs s18, defBody s18, defScope s18, [], []⟩, [("self" : Str), ("row" : Str), ("kids" : Str), ("given" : Str), ("kid" : Str), ("some" : Str), ("state" : Str), ("thing" : Str)], false⟩
abbrev s19 : Stmt := inClass (top 36) 2
def e19 : DefS := ⟨⟨("Through", some "lead"), "lead", "Through.lead", defArgs s19, defBody s19, defScope s19, [], []⟩, [("self" : Str), ("sign" : Str), ("kids" : Str), ("found" : Str), ("state" : Str)], false⟩
abbrev s20 : Stmt := inClass (top 37) 0
def e20 : DefS := ⟨⟨("Sizes", some "lead"), "lead", "Sizes.lead", defArgs s20, defBody s20, defScope s20, [], []⟩, [("self" : Str), ("sign" : Str), ("kids" : Str)], false⟩
abbrev s21 : Stmt := inClass (top 38) 0
def e21 : DefS := ⟨⟨("Built", some "__init__"), "__init__", "Built.__init__", defArgs s21, defBody s21, defScope s21, [], []⟩, [("self" : Str), ("most" : Str)], false⟩
abbrev s22 : Stmt := inClass (top 38) 1
def e22 : DefS := ⟨⟨("Built", some "lead"), "lead", "Built.lead", defArgs s22, defBody s22, defScope s22, [], []⟩, [("self" : Str), ("sign" : Str), ("kids" : Str), ("size" : Str), ("row" : Str), ("kid" : Str)], false⟩
abbrev s23 : Stmt := top 39
def e23 : DefS := ⟨⟨("told_row", none), "told_row", "told_row", defArgs s23, defBody s23, defScope s23, [], []⟩, [("found" : Str)], false⟩
abbrev s24 : Stmt := top 40
def e24 : DefS := ⟨⟨("turned_by", none), "turned_by", "turned_by", defArgs s24, defBody s24, defScope s24, [], []⟩, [("turner" : Str), ("tree" : Str)], false⟩
abbrev s25 : Stmt := top 41
def e25 : DefS := ⟨⟨("turned", none), "turned", "turned", defArgs s25, defBody s25, defScope s25, [], []⟩, [("turner" : Str), ("tree" : Str)], false⟩
abbrev s26 : Stmt := top 42
def e26 : DefS := ⟨⟨("size_turned", none), "size_turned", "size_turned", defArgs s26, defBody s26, defScope s26, [], []⟩, [("turner" : Str), ("tree" : Str)], false⟩
abbrev s27 : Stmt := top 43
def e27 : DefS := ⟨⟨("kid_places", none), "kid_places", "kid_places", defArgs s27, defBody s27, defScope s27, [], []⟩, [("book" : Str), ("tree" : Str), ("found" : Str), ("waiting" : Str), ("back" : Str), ("place" : Str), ("kid" : Str)], false⟩
abbrev s28 : Stmt := top 44
def e28 : DefS := ⟨⟨("row_end", none), "row_end", "row_end", defArgs s28, defBody s28, defScope s28, [], []⟩, [("book" : Str), ("row" : Str), ("first" : Str), ("lacks" : Str), ("at" : Str)], false⟩
abbrev s29 : Stmt := inClass (top 45) 0
def e29 : DefS := ⟨⟨("Walk", some "__init__"), "__init__", "Walk.__init__", defArgs s29, defBody s29, defScope s29, [], []⟩, [("self" : Str), ("turner" : Str), ("tree" : Str)], false⟩
abbrev s30 : Stmt := inClass (top 45) 1
def e30 : DefS := ⟨⟨("Walk", some "go_in"), "go_in", "Walk.go_in", defArgs s30, defBody s30, defScope s30, [], []⟩, [("self" : Str), ("state" : Str), ("kid" : Str)], false⟩
abbrev s31 : Stmt := inClass (top 45) 2
def e31 : DefS := ⟨⟨("Walk", some "go_down"), "go_down", "Walk.go_down", defArgs s31, defBody s31, defScope s31, [], []⟩, [("self" : Str), ("number" : Str), ("goals" : Str), ("turn" : Str)], false⟩
abbrev s32 : Stmt := inClass (top 45) 3
def e32 : DefS := ⟨⟨("Walk", some "part"), "part", "Walk.part", defArgs s32, defBody s32, defScope s32, [], []⟩, [("self" : Str), ("through" : Str), ("found" : Str), ("kids" : Str), ("end" : Str), ("place" : Str)], false⟩
abbrev s33 : Stmt := top 46
def e33 : DefS := ⟨⟨("part_turned", none), "part_turned", "part_turned", defArgs s33, defBody s33, defScope s33, [], []⟩, [("turner" : Str), ("tree" : Str), ("place" : Str), ("walk" : Str), ("number" : Str)], false⟩
abbrev s34 : Stmt := top 47
def e34 : DefS := ⟨⟨("must_be_like", none), "must_be_like", "must_be_like", defArgs s34, defBody s34, defScope s34, [], []⟩, [("one" : Str), ("other" : Str)], false⟩
abbrev s35 : Stmt := inClass (top 48) 0
def e35 : DefS := ⟨⟨("Behind", some "__init__"), "__init__", "Behind.__init__", defArgs s35, defBody s35, defScope s35, [], []⟩, [("self" : Str), ("other" : Str)], false⟩
abbrev s36 : Stmt := inClass (top 48) 1
def e36 : DefS := ⟨⟨("Behind", some "made_row"), "made_row", "Behind.made_row", defArgs s36, defBody s36, defScope s36, [], []⟩, [("self" : Str), ("book" : Str), ("row" : Str), ("state" : Str), ("given" : Str), ("item" : Str), ("later" : Str)], false⟩
abbrev s37 : Stmt := top 49
def e37 : DefS := ⟨⟨("behind", none), "behind", "behind", defArgs s37, defBody s37, defScope s37, [], []⟩, [("one" : Str), ("other" : Str), ("after" : Str), ("pairs" : Str), ("rows" : Str), ("told" : Str), ("some" : Str), ("sign" : Str), ("first" : Str), ("second" : Str), ("row" : Str), ("item" : Str)], false⟩
abbrev s38 : Stmt := top 50
def e38 : DefS := ⟨⟨("numbered", none), "numbered", "numbered", defArgs s38, defBody s38, defScope s38, [], []⟩, [("row" : Str), ("pairs" : Str), ("found" : Str), ("item" : Str)], false⟩
abbrev s39 : Stmt := top 51
def e39 : DefS := ⟨⟨("again", none), "again", "again", defArgs s39, defBody s39, defScope s39, [], []⟩, [("turner" : Str), ("tree" : Str), ("times" : Str), ("here" : Str), ("turn" : Str)], false⟩
abbrev s40 : Stmt := top 55
def e40 : DefS := ⟨⟨("is_name", none), "is_name", "is_name", defArgs s40, defBody s40, defScope s40, [], []⟩, [("text" : Str), ("most" : Str), ("letter" : Str)], false⟩
abbrev s41 : Stmt := top 56
def e41 : DefS := ⟨⟨("check_book", none), "check_book", "check_book", defArgs s41, defBody s41, defScope s41, [], []⟩, [("signs" : Str), ("names" : Str), ("leaves" : Str), ("name" : Str), ("kids" : Str)], false⟩
abbrev s42 : Stmt := inClass (top 57) 0
def e42 : DefS := ⟨⟨("Book", some "__init__"), "__init__", "Book.__init__", defArgs s42, defBody s42, defScope s42, [], []⟩, [("self" : Str), ("signs" : Str), ("name" : Str), ("kids" : Str)], false⟩
abbrev s43 : Stmt := inClass (top 57) 1
def e43 : DefS := ⟨⟨("Book", some "many"), "many", "Book.many", defArgs s43, defBody s43, defScope s43, [], []⟩, [("self" : Str)], false⟩
abbrev s44 : Stmt := inClass (top 57) 2
def e44 : DefS := ⟨⟨("Book", some "name"), "name", "Book.name", defArgs s44, defBody s44, defScope s44, [], []⟩, [("self" : Str), ("sign" : Str)], false⟩
abbrev s45 : Stmt := inClass (top 57) 3
def e45 : DefS := ⟨⟨("Book", some "kids"), "kids", "Book.kids", defArgs s45, defBody s45, defScope s45, [], []⟩, [("self" : Str), ("sign" : Str)], false⟩
abbrev s46 : Stmt := inClass (top 57) 4
def e46 : DefS := ⟨⟨("Book", some "number"), "number", "Book.number", defArgs s46, defBody s46, defScope s46, [], []⟩, [("self" : Str), ("name" : Str)], false⟩
abbrev s47 : Stmt := inClass (top 57) 5
def e47 : DefS := ⟨⟨("Book", some "is_like"), "is_like", "Book.is_like", defArgs s47, defBody s47, defScope s47, [], []⟩, [("self" : Str), ("book" : Str)], false⟩
abbrev s48 : Stmt := top 59
def e48 : DefS := ⟨⟨("_law_cell", none), "_law_cell", "_law_cell", defArgs s48, defBody s48, defScope s48, [], []⟩, [("_law_script" : Str), ("_law_k" : Str)], false⟩
abbrev s49 : Stmt := top 60
def e49 : DefS := ⟨⟨("_law_mix", none), "_law_mix", "_law_mix", defArgs s49, defBody s49, defScope s49, [], []⟩, [("_law_cell_here" : Str), ("_law_k" : Str), ("_law_some" : Str), ("_law_stir" : Str)], false⟩
abbrev s50 : Stmt := top 61
def e50 : DefS := ⟨⟨("_law_box", none), "_law_box", "_law_box", defArgs s50, defBody s50, defScope s50, [], []⟩, [("_law_script" : Str), ("_law_k" : Str), ("_law_lap" : Str), ("_law_cell_here" : Str), ("_law_number" : Str), ("_law_j" : Str)], false⟩
abbrev s51 : Stmt := top 62
def e51 : DefS := ⟨⟨("_law_take", none), "_law_take", "_law_take", defArgs s51, defBody s51, defScope s51, [], []⟩, [("_law_box_here" : Str), ("_law_bound" : Str), ("_law_left" : Str), ("_law_digit" : Str)], false⟩
abbrev s52 : Stmt := top 63
def e52 : DefS := ⟨⟨("_law_signs", none), "_law_signs", "_law_signs", defArgs s52, defBody s52, defScope s52, [], []⟩, [("_law_box_here" : Str), ("_law_letters" : Str), ("_law_count" : Str), ("_law_leaf" : Str), ("_law_found" : Str), ("_law_sign" : Str), ("_law_name" : Str), ("_law_kids" : Str)], false⟩
abbrev s53 : Stmt := top 64
def e53 : DefS := ⟨⟨("_law_numbers", none), "_law_numbers", "_law_numbers", defArgs s53, defBody s53, defScope s53, [], []⟩, [("_law_signs_here" : Str), ("_law_name" : Str), ("_law_kids" : Str)], false⟩
abbrev s54 : Stmt := top 65
def e54 : DefS := ⟨⟨("_law_tree", none), "_law_tree", "_law_tree", defArgs s54, defBody s54, defScope s54, [], []⟩, [("_law_box_here" : Str), ("_law_kids" : Str), ("_law_most" : Str), ("_law_row" : Str), ("_law_wanted" : Str), ("_law_some" : Str), ("_law_sign" : Str)], false⟩
abbrev s55 : Stmt := top 66
def e55 : DefS := ⟨⟨("_law_made", none), "_law_made", "_law_made", defArgs s55, defBody s55, defScope s55, [], []⟩, [("_law_box_here" : Str), ("_law_kids" : Str), ("_law_goals" : Str), ("_law_states" : Str), ("_law_most" : Str), ("_law_row" : Str), ("_law_wanted" : Str), ("_law_some" : Str), ("_law_sign" : Str)], false⟩
abbrev s56 : Stmt := top 69
def e56 : DefS := ⟨⟨("_law_is_small", none), "_law_is_small", "_law_is_small", defArgs s56, defBody s56, defScope s56, [], []⟩, [("_law_turner" : Str), ("_law_count" : Str), ("_law_state" : Str), ("_law_sign" : Str)], false⟩
abbrev s57 : Stmt := top 70
def e57 : DefS := ⟨⟨("_law_powers", none), "_law_powers", "_law_powers", defArgs s57, defBody s57, defScope s57, [], []⟩, [("_law_turner" : Str), ("_law_book" : Str), ("_law_count" : Str), ("_law_found" : Str), ("_law_fresh" : Str), ("_law_last" : Str)], true⟩
abbrev s58 : Stmt := top 71
def e58 : DefS := ⟨⟨("_law_tree_right", none), "_law_tree_right", "_law_tree_right", defArgs s58, defBody s58, defScope s58, [], []⟩, [("_law_box_here" : Str), ("_law_book" : Str), ("_law_turner" : Str), ("_law_powers_here" : Str), ("_law_tree_here" : Str), ("_law_times" : Str), ("_law_middle" : Str), ("_law_both" : Str), ("_law_due" : Str), ("_law_power" : Str), ("_law_told" : Str), ("_law_one" : Str), ("_law_more" : Str), ("_law_place" : Str)], true⟩
abbrev s59 : Stmt := top 72
def e59 : DefS := ⟨⟨("_law_right", none), "_law_right", "_law_right", defArgs s59, defBody s59, defScope s59, [], []⟩, [("_law_box_here" : Str), ("_law_signs_here" : Str), ("_law_kids" : Str), ("_law_book" : Str), ("_law_states" : Str), ("_law_most" : Str), ("_law_rows" : Str), ("_law_turner" : Str), ("_law_powers_here" : Str), ("_law_turn" : Str), ("_law_state" : Str), ("_law_count" : Str)], false⟩
abbrev s60 : Stmt := top 73
def e60 : DefS := ⟨⟨("law", none), "law", "law", defArgs s60, defBody s60, defScope s60, [], []⟩, [("_law_script" : Str), ("_law_k" : Str), ("_law_lap" : Str)], false⟩
def ds : List DefS := [e0, e1, e2, e3, e4, e5, e6, e7, e8, e9, e10, e11, e12, e13, e14, e15, e16, e17, e18, e19, e20, e21, e22, e23, e24, e25, e26, e27, e28, e29, e30, e31, e32, e33, e34, e35, e36, e37, e38, e39, e40, e41, e42, e43, e44, e45, e46, e47, e48, e49, e50, e51, e52, e53, e54, e55, e56, e57, e58, e59, e60]
def sig : Sig where
  N := ⟨[("Turner" : Str), ("Through" : Str), ("Sizes" : Str), ("Built" : Str), ("Walk" : Str), ("Behind" : Str), ("Book" : Str)], [("own_book" : Str), ("own_goals" : Str), ("own_rows" : Str), ("own_turner" : Str), ("own_inner" : Str), ("own_most" : Str), ("own_tree" : Str), ("own_kids" : Str), ("own_here" : Str), ("own_made" : Str), ("own_at" : Str), ("own_states" : Str), ("own_through" : Str), ("names_told" : Str), ("kids_told" : Str)], [("book" : Str), ("goals" : Str), ("states" : Str), ("row" : Str), ("with_rows" : Str), ("of_row" : Str), ("lead" : Str), ("go_in" : Str), ("go_down" : Str), ("part" : Str), ("made_row" : Str), ("many" : Str), ("name" : Str), ("kids" : Str), ("number" : Str), ("is_like" : Str)], [("HandError" : Str), ("NoBook" : Str), ("NoTree" : Str), ("NoPlace" : Str), ("NoReader" : Str), ("Unlike" : Str), ("TooGreat" : Str), ("NoGuesser" : Str), ("NoPattern" : Str), ("NoNumber" : Str), ("NoTurner" : Str), ("NoText" : Str), ("NoLine" : Str), ("NoName" : Str), ("Nothing" : Str)]⟩
  P := prog
  ats := [(("end_of" : Str), (none : Option Str)), (("is_tree" : Str), (none : Option Str)), (("check_tree" : Str), (none : Option Str)), (("places_in" : Str), (none : Option Str)), (("places" : Str), (none : Option Str)), (("start_of" : Str), (none : Option Str)), (("at" : Str), (none : Option Str)), (("is_made_row" : Str), (none : Option Str)), (("Turner" : Str), some ("__init__" : Str)), (("Turner" : Str), some ("book" : Str)), (("Turner" : Str), some ("goals" : Str)), (("Turner" : Str), some ("states" : Str)), (("Turner" : Str), some ("row" : Str)), (("Turner" : Str), some ("with_rows" : Str)), (("idle" : Str), (none : Option Str)), (("folded" : Str), (none : Option Str)), (("all_folded" : Str), (none : Option Str)), (("Through" : Str), some ("__init__" : Str)), (("Through" : Str), some ("of_row" : Str)), (("Through" : Str), some ("lead" : Str)), (("Sizes" : Str), some ("lead" : Str)), (("Built" : Str), some ("__init__" : Str)), (("Built" : Str), some ("lead" : Str)), (("told_row" : Str), (none : Option Str)), (("turned_by" : Str), (none : Option Str)), (("turned" : Str), (none : Option Str)), (("size_turned" : Str), (none : Option Str)), (("kid_places" : Str), (none : Option Str)), (("row_end" : Str), (none : Option Str)), (("Walk" : Str), some ("__init__" : Str)), (("Walk" : Str), some ("go_in" : Str)), (("Walk" : Str), some ("go_down" : Str)), (("Walk" : Str), some ("part" : Str)), (("part_turned" : Str), (none : Option Str)), (("must_be_like" : Str), (none : Option Str)), (("Behind" : Str), some ("__init__" : Str)), (("Behind" : Str), some ("made_row" : Str)), (("behind" : Str), (none : Option Str)), (("numbered" : Str), (none : Option Str)), (("again" : Str), (none : Option Str)), (("is_name" : Str), (none : Option Str)), (("check_book" : Str), (none : Option Str)), (("Book" : Str), some ("__init__" : Str)), (("Book" : Str), some ("many" : Str)), (("Book" : Str), some ("name" : Str)), (("Book" : Str), some ("kids" : Str)), (("Book" : Str), some ("number" : Str)), (("Book" : Str), some ("is_like" : Str)), (("_law_cell" : Str), (none : Option Str)), (("_law_mix" : Str), (none : Option Str)), (("_law_box" : Str), (none : Option Str)), (("_law_take" : Str), (none : Option Str)), (("_law_signs" : Str), (none : Option Str)), (("_law_numbers" : Str), (none : Option Str)), (("_law_tree" : Str), (none : Option Str)), (("_law_made" : Str), (none : Option Str)), (("_law_is_small" : Str), (none : Option Str)), (("_law_powers" : Str), (none : Option Str)), (("_law_tree_right" : Str), (none : Option Str)), (("_law_right" : Str), (none : Option Str)), (("law" : Str), (none : Option Str))]
  gl := [(("end_of" : Str), 0), (("is_tree" : Str), 1), (("check_tree" : Str), 2), (("places_in" : Str), 3), (("places" : Str), 4), (("start_of" : Str), 5), (("at" : Str), 6), (("is_made_row" : Str), 7), (("idle" : Str), 14), (("folded" : Str), 15), (("all_folded" : Str), 16), (("told_row" : Str), 23), (("turned_by" : Str), 24), (("turned" : Str), 25), (("size_turned" : Str), 26), (("kid_places" : Str), 27), (("row_end" : Str), 28), (("part_turned" : Str), 33), (("must_be_like" : Str), 34), (("behind" : Str), 37), (("numbered" : Str), 38), (("again" : Str), 39), (("is_name" : Str), 40), (("check_book" : Str), 41), (("_law_cell" : Str), 48), (("_law_mix" : Str), 49), (("_law_box" : Str), 50), (("_law_take" : Str), 51), (("_law_signs" : Str), 52), (("_law_numbers" : Str), 53), (("_law_tree" : Str), 54), (("_law_made" : Str), 55), (("_law_is_small" : Str), 56), (("_law_powers" : Str), 57), (("_law_tree_right" : Str), 58), (("_law_right" : Str), 59), (("law" : Str), 60)]
  cls := [(("Turner" : Str), 0), (("Through" : Str), 1), (("Sizes" : Str), 2), (("Built" : Str), 3), (("Walk" : Str), 4), (("Behind" : Str), 5), (("Book" : Str), 6)]
  cons := [(("MOST_IN" : Str), ((.int 40) : TT.D)), (("MOST_STATES" : Str), ((.int 3) : TT.D)), (("MOST_ROW" : Str), ((.int 8) : TT.D)), (("MOST_SIGNS_turners" : Str), ((.int 200) : TT.D)), (("MOST_BEHIND" : Str), ((.int 60) : TT.D)), (("MOST_TIMES" : Str), ((.int 20) : TT.D)), (("LETTERS" : Str), ((.str "abcdefghijklmnopqrstuvwxyz") : TT.D)), (("MOST_SIGNS_signs" : Str), ((.int 6) : TT.D))]
  blts := [("abs" : Str), ("all" : Str), ("divmod" : Str), ("enumerate" : Str), ("int" : Str), ("isinstance" : Str), ("len" : Str), ("list" : Str), ("max" : Str), ("min" : Str), ("range" : Str), ("reversed" : Str), ("sorted" : Str), ("sum" : Str), ("tuple" : Str)]
  asked := "_law_asked"
def li : Nat := 60
end G

namespace G
open PySem PySem.Spec PyProof.Rows L2 TS PySem.W PySem.Calls HandSHeadRun
abbrev sA : Stmt := top 68
abbrev sW : Stmt := top 67
def dA : He.DefD := ⟨(("_law_asked" : Str), none), "_law_asked", "_law_asked", defArgs sA, defBody sA, defScope sA, [], []⟩
def dW : He.DefD := ⟨(("_law_which" : Str), none), "_law_which", "_law_which", defArgs sW, defBody sW, defScope sW, [], []⟩
def more : List He.Fa := [.glo sig.asked, .glo "_law_which", .free "isinstance", .free "ValueError"]
def defs : List He.DefD := [dA, dW]
def ex (K : PySem.W.Frag) : Bool := exT ds K && (nwB sig K && excsB sig "HandError" K)
def fa : List He.Fa := .glo "law" :: (sig.facts ++ more)
def fn : List He.DefD := ds.map (·.d) ++ defs
def names0 : List Str := [("__name__" : Str), ("HandError" : Str), ("NoBook" : Str), ("NoTree" : Str), ("NoPlace" : Str), ("NoReader" : Str), ("Unlike" : Str), ("TooGreat" : Str), ("NoGuesser" : Str), ("NoPattern" : Str), ("NoNumber" : Str), ("NoTurner" : Str), ("NoText" : Str), ("NoLine" : Str), ("NoName" : Str), ("Nothing" : Str), ("MOST_IN" : Str), ("end_of" : Str), ("is_tree" : Str), ("check_tree" : Str)]
def names1 : List Str := [("places_in" : Str), ("places" : Str), ("start_of" : Str), ("at" : Str), ("MOST_STATES" : Str), ("MOST_ROW" : Str), ("MOST_SIGNS_turners" : Str), ("MOST_BEHIND" : Str), ("MOST_TIMES" : Str), ("is_made_row" : Str), ("Turner" : Str), ("idle" : Str), ("folded" : Str), ("all_folded" : Str), ("Through" : Str), ("Sizes" : Str), ("Built" : Str), ("told_row" : Str), ("turned_by" : Str), ("turned" : Str)]
def names2 : List Str := [("size_turned" : Str), ("kid_places" : Str), ("row_end" : Str), ("Walk" : Str), ("part_turned" : Str), ("must_be_like" : Str), ("Behind" : Str), ("behind" : Str), ("numbered" : Str), ("again" : Str), ("LETTERS" : Str), ("MOST_SIGNS_signs" : Str), ("is_name" : Str), ("check_book" : Str), ("Book" : Str), ("_law_cell" : Str), ("_law_mix" : Str), ("_law_box" : Str), ("_law_take" : Str), ("_law_signs" : Str)]
def names3 : List Str := [("_law_numbers" : Str), ("_law_tree" : Str), ("_law_made" : Str), ("_law_which" : Str), ("_law_asked" : Str), ("_law_is_small" : Str), ("_law_powers" : Str), ("_law_tree_right" : Str), ("_law_right" : Str)]
def names : List Str := names0 ++ names1 ++ names2 ++ names3
abbrev R : PySem.W.OpenRow := PySem.W.OpenLaw.row PySem.Challenge.rw_treehands_k50_whole_again_and_behind
abbrev qq : PySem.Program := PySem.W.view R.prog [73]
noncomputable abbrev St (w : World) (os : OsState) := endT R 30000 w os
theorem run1 (w : World) (os : OsState) : (St w os).map (fun s => looksF R.prog (boot_heap w.params) s.abs) = some true := by
  kernel_rfl
theorem run2 (w : World) (os : OsState) : (St w os).map (fun s => seenQ qq names (importedModules R.prog.main.body) (fun s => xlAt qq [] s && recOk R.toRowW.records s) s.abs) = some (openGood qq names) := by
  kernel_rfl
theorem run3 (w : World) (os : OsState) : (St w os).map (fun s => fa.all fun f => f.ok (KM (getT s))) = some true := by
  kernel_rfl
theorem run4 (w : World) (os : OsState) : (St w os).map (fun s => fn.all fun d => d.ok (KM (getT s))) = some true := by
  kernel_rfl
theorem run5 (w : World) (os : OsState) : (St w os).map (fun s => fn.map fun d => He.fnW (KM (getT s)) d.at_) = some (fn.map He.DefD.val) := by
  kernel_rfl
theorem run6 (w : World) (os : OsState) : (St w os).map (fun s => ex (KM (getT s))) = some true := by
  kernel_rfl
theorem run7 (w : World) (os : OsState) : (St w os).map (fun s => He.tabsB (getT s) (tfOf ds) (KM (getT s))) = some true := by
  kernel_rfl
abbrev hk : PySem.W.Hook := hookM fa fn (tfOf ds) ex
abbrev ob : PySem.W.SharedT → He.AlX := obM fa fn (tfOf ds) ex
theorem ob_eq (s : PySem.W.SharedT) : ob s = hk.obs s.abs := obM_eq s
theorem run (w : World) : RunEq R qq hk ob 30000 names w := run_of (run1 w) (run2 w) (run3 w) (run4 w) (run5 w) (run6 w) (run7 w)
end G

set_option maxRecDepth 100000
/-! What stands in the heap for data, values, the store. -/
namespace TS
open PySem PySem.Spec PyProof.Rows L2
abbrev D := TT.D
abbrev W := TT.W
abbrev M := TT.M
abbrev Sto := TT.Sto
abbrev Loc := List (Option Addr)

/-- a list at a that nobody here changes -/
def LstF (K : PySem.W.Frag) (L : Loc) (H : Hp) (a : Addr) (xs : List L2.V) : Prop :=
  (some a ∉ L ∧ Rd H a (.lst xs)) ∨ ∃ (o : Obj) (its : Array Value) (n : Nat), K.lookup a = some o ∧ o.cls = .type "list" ∧ o.dict = none ∧ o.data = .seq its n ∧ its.size ≤ sizeLine ∧ Vals xs its.toList
def TupF (L : Loc) (H : Hp) (a : Addr) (xs : List L2.V) : Prop := some a ∉ L ∧ H a = some (.tup xs)
def kD : Key → D
  | .inl i => .int i
  | .inr x => .str x
def kT (ks : List Key) : D := .tup (ks.map kD)
mutual
/-- a key as the library tells it -/
def nk : D → NestedKey
  | .non => .none
  | .int i => .num i
  | .tup ds => .tup (nks ds)
  | _ => .none
def nks : List D → List NestedKey
  | [] => []
  | d :: ds => nk d :: nks ds
end
abbrev KN : List (D × Addr × L2.V) → List (NestedKey × Addr × Value) → Prop := Paired fun p q => q.1 = nk p.1 ∧ q.2.1 = p.2.1 ∧ RelV p.2.2 q.2.2
/-- what is true of a dict at a whose keys are tuples, tuples within -/
def dnP (w : World) (a : Addr) (kvs : List (D × Addr × L2.V)) (h : Heap) : Prop :=
  ∃ xs, KN kvs xs ∧ ∃ o es ep, h.get? a = some o ∧ o.ExactDict ∧ o.data = .dict es ep ∧ es.toList = xs.map fun x => (⟨x.1.hash w, .ref x.2.1, x.2.2⟩ : DictEntry)
def DN (w : World) (a : Addr) (kvs : List (D × Addr × L2.V)) : HO := .ext (dnP w a kvs)
/-- a dict of the ones above: all that the heap needn't tell -/
structure DnOk (a : Addr) (kvs : List (D × Addr × L2.V)) : Prop where
  nsys : (a == sysModules) = false
  len : kvs.length ≤ sizeLine
  key : ∀ p ∈ kvs, TT.keyN p.1 = true
  nd : (kvs.map (·.1)).Nodup
mutual
inductive RepD (N : Nm) (K : PySem.W.Frag) (L : Loc) (H : Hp) : L2.V → D → Prop
  | non : RepD N K L H .non .non
  | bl (b : Bool) : RepD N K L H (.bl b) (.bl b)
  | int (i : Int) : RepD N K L H (.int i) (.int i)
  | str (x : Str) : RepD N K L H (.str x) (.str x)
  | lst {a : Addr} {xs : List L2.V} {ds : List D} (n : some a ∉ L) (h : H a = some (.lst xs)) (r : RepDs N K L H xs ds) : RepD N K L H (.ref a) (.lst ds)
  | rol {a : Addr} {xs : List L2.V} {ds : List D} (h : LstF K L H a xs) (r : RepDs N K L H xs ds) : RepD N K L H (.ref a) (.rol ds)
  | tup {a : Addr} {xs : List L2.V} {ds : List D} (h : TupF L H a xs) (r : RepDs N K L H xs ds) : RepD N K L H (.ref a) (.tup ds)
  | dK {a : Addr} {kvs : List (Key × L2.V)} {vs : List D} (n : some a ∉ L) (h : Rd H a (.dK kvs)) (r : RepDs N K L H (kvs.map (·.2)) vs) : RepD N K L H (.ref a) (.dct 0 (kvs.map fun p => kD p.1) vs)
  | dT {a : Addr} {kvs : List (List Key × L2.V)} {vs : List D} (n : some a ∉ L) (h : Rd H a (.dT kvs)) (r : RepDs N K L H (kvs.map (·.2)) vs) : RepD N K L H (.ref a) (.dct 1 (kvs.map fun p => kT p.1) vs)
  | d3 {a : Addr} (n : some a ∉ L) (h : Rd H a (.dK [])) : RepD N K L H (.ref a) (.dct 3 [] [])
  | dN {w : World} {a : Addr} {kvs : List (D × Addr × L2.V)} {vs : List D} (n : some a ∉ L) (h : H a = some (DN w a kvs)) (k : DnOk a kvs) (rk : RepDs N K L H (kvs.map fun p => .ref p.2.1) (kvs.map (·.1))) (r : RepDs N K L H (kvs.map (·.2.2)) vs) : RepD N K L H (.ref a) (.dct 2 (kvs.map (·.1)) vs)
  | obj {a dx : Addr} {fs : List (Str × L2.V)} {c : Nat} {ks : List Nat} {vs : List D} (hc : c < N.cs.length) (n : some a ∉ L) (h : H a = some (.ins (N.ca K c) dx fs)) (e : fs.map (·.1) = ks.map N.an) (r : RepDs N K L H (fs.map (·.2)) vs) : RepD N K L H (.ref a) (.obj c ks vs)
inductive RepDs (N : Nm) (K : PySem.W.Frag) (L : Loc) (H : Hp) : List L2.V → List D → Prop
  | nil : RepDs N K L H [] []
  | cons {v : L2.V} {vs : List L2.V} {d : D} {ds : List D} (r : RepD N K L H v d) (t : RepDs N K L H vs ds) : RepDs N K L H (v :: vs) (d :: ds)
end
/-- a thing of the store -/
inductive RepM (N : Nm) (K : PySem.W.Frag) (L : Loc) (H : Hp) (a : Addr) : M → Prop
  | lst {xs : List L2.V} {ds : List D} (h : H a = some (.lst xs)) (r : RepDs N K L H xs ds) : RepM N K L H a (.lst ds)
  | dK {kvs : List (Key × L2.V)} {vs : List D} (h : H a = some (.dK kvs)) (r : RepDs N K L H (kvs.map (·.2)) vs) : RepM N K L H a (.dct 0 (kvs.map fun p => kD p.1) vs)
  | dT {kvs : List (List Key × L2.V)} {vs : List D} (h : H a = some (.dT kvs)) (r : RepDs N K L H (kvs.map (·.2)) vs) : RepM N K L H a (.dct 1 (kvs.map fun p => kT p.1) vs)
  | d3 (h : H a = some (.dK [])) : RepM N K L H a (.dct 3 [] [])
  | dN {w : World} {kvs : List (D × Addr × L2.V)} {vs : List D} (h : H a = some (DN w a kvs)) (k : DnOk a kvs) (rk : RepDs N K L H (kvs.map fun p => .ref p.2.1) (kvs.map (·.1))) (r : RepDs N K L H (kvs.map (·.2.2)) vs) : RepM N K L H a (.dct 2 (kvs.map (·.1)) vs)
  | obj {dx : Addr} {fs : List (Str × L2.V)} {c : Nat} {ks : List Nat} {vs : List D} (hc : c < N.cs.length) (h : H a = some (.ins (N.ca K c) dx fs)) (e : fs.map (·.1) = ks.map N.an) (r : RepDs N K L H (fs.map (·.2)) vs) : RepM N K L H a (.obj c ks vs)
def RepW (N : Nm) (K : PySem.W.Frag) (L : Loc) (H : Hp) (v : L2.V) : W → Prop
  | .d x => RepD N K L H v x
  | .loc l => ∃ a, L[l]? = some (some a) ∧ v = .ref a
inductive RepWs (N : Nm) (K : PySem.W.Frag) (L : Loc) (H : Hp) : List L2.V → List W → Prop
  | nil : RepWs N K L H [] []
  | cons {v : L2.V} {vs : List L2.V} {w : W} {ws : List W} (r : RepW N K L H v w) (t : RepWs N K L H vs ws) : RepWs N K L H (v :: vs) (w :: ws)
/-- what is said of some dict -/
def DictPhi (φ : Heap → Prop) : Prop := ∀ h, φ h → ∃ (a : Addr) (o : Obj) (es : Array DictEntry) (ep : Nat), h.get? a = some o ∧ o.data = .dict es ep
theorem dn_phi (w : World) (a : Addr) (kvs : List (D × Addr × L2.V)) : DictPhi (dnP w a kvs) := fun h ⟨_, _, o, es, ep, h1, _, h2, _⟩ => ⟨a, o, es, ep, h1, h2⟩
theorem code_no_dict {c : Addr} {q : Str} {φ : Heap → Prop} (e : LamX.CodeO c q = .ext φ) (d : DictPhi φ) : False := by
  unfold LamX.CodeO at e
  injection e with e
  have g : ∀ b, ({ objs := Array.replicate (c + 1) { cls := .none, data := .fields #[.none, .str q 0] } } : Heap).get? b = if b < c + 1 then some { cls := .none, data := .fields #[.none, .str q 0] } else none := fun b => by
    unfold Heap.get?
    simp only [Array.getElem?_replicate]
    split <;> split <;> simp_all
  have hx : φ { objs := Array.replicate (c + 1) { cls := .none, data := .fields #[.none, .str q 0] } } := by
    rw [← e]
    refine ⟨{ cls := .none, data := .fields #[.none, .str q 0] }, _, 0, ?_, rfl, rfl⟩
    rw [g, if_pos (Nat.lt_succ_self _)]
  obtain ⟨a, o, es, ep, h1, h2⟩ := d _ hx
  rw [g] at h1
  split at h1
  · cases h1; cases h2
  · cases h1
/-- the store as it stands -/
structure RelS (N : Nm) (K : PySem.W.Frag) (T : List (Addr × Str)) (L : Loc) (H : Hp) (s : Sto) : Prop where
  len : L.length = s.length
  uniq : ∀ (l k : Nat) (a : Addr), L[l]? = some (some a) → L[k]? = some (some a) → l = k
  there : ∀ a, some a ∈ L → ∃ o, H a = some o ∧ (match o with | .lst _ => True | .dK _ => True | .dT _ => True | .ins _ _ _ => True | .ext φ => DictPhi φ | _ => False)
  at_ : ∀ (l : Nat) (m : M), s[l]? = some m → m ≠ .dead → ∃ a, L[l]? = some (some a) ∧ RepM N K L H a m
  tabs : LamX.Tabs T H
structure RelE (N : Nm) (K : PySem.W.Frag) (L : Loc) (H : Hp) (σ : L2.St) (e : TT.Env) : Prop where
  len : e.length = σ.length
  at_ : ∀ (i : Nat) (w : W), e[i]? = some (some w) → ∃ v, σ[i]? = some (some v) ∧ RepW N K L H v w
/-- nothing of the program's stands there -/
def Free (H : Hp) (a : Addr) : Prop := H a = none ∨ ∃ ps, H a = some (.tbl ps)
theorem Free.not {H : Hp} {a : Addr} {o : HO} (f : Free H a) (h : H a = some o) (n : ∀ ps, o ≠ .tbl ps) : False := by
  rcases f with f | ⟨ps, f⟩
  · rw [h] at f; cases f
  · rw [h] at f; cases f; exact n ps rfl
/-- from one state to a later one -/
structure Pst (L L' : Loc) (H H' : Hp) : Prop where
  pre : ∃ X, L' = L ++ X
  new : ∀ a, some a ∈ L' → some a ∈ L ∨ Free H a
  fr : ∀ a o, H a = some o → some a ∉ L → (∀ ps, o ≠ .tbl ps) → H' a = some o
  thr : ∀ a, Free H' a → Free H a
theorem Pst.refl (L : Loc) (H : Hp) : Pst L L H H := ⟨⟨[], by simp⟩, fun _ h => .inl h, fun _ _ h _ _ => h, fun _ h => h⟩
theorem Pst.trans {L L1 L2 : Loc} {H H1 H2 : Hp} (a : Pst L L1 H H1) (b : Pst L1 L2 H1 H2) : Pst L L2 H H2 where
  pre := by
    obtain ⟨X, e⟩ := a.pre
    obtain ⟨Y, f⟩ := b.pre
    exact ⟨X ++ Y, by rw [f, e, List.append_assoc]⟩
  new := fun p h => by
    rcases b.new p h with h | h
    · exact a.new p h
    · exact .inr (a.thr p h)
  fr := fun p o h n q => by
    refine b.fr p o (a.fr p o h n q) (fun z => ?_) q
    rcases a.new p z with z | z
    · exact n z
    · exact z.not h q
  thr := fun p h => a.thr p (b.thr p h)
theorem Free.upd {H : Hp} {a p : Addr} {o : HO} (f : Free (upd H p o) a) (h : Free H p) : Free H a := by
  by_cases e : a = p
  · rw [e]; exact h
  · unfold Free at f; rwa [upd_ne e] at f
section
variable {N : Nm} {K : PySem.W.Frag} {T : List (Addr × Str)} {L L' : Loc} {H H' : Hp} {s : Sto}
/-- what data leans on stays -/
structure Keeps (L L' : Loc) (H H' : Hp) : Prop where
  out : ∀ a o, some a ∉ L → H a = some o → (∀ ps, o ≠ .tbl ps) → some a ∉ L'
  fr : ∀ a o, H a = some o → some a ∉ L → (∀ ps, o ≠ .tbl ps) → H' a = some o
theorem Pst.keeps (p : Pst L L' H H') : Keeps L L' H H' where
  out := fun a o n h nt z => by
    rcases p.new a z with z | z
    · exact n z
    · exact z.not h nt
  fr := p.fr
theorem rd_keeps {a : Addr} {u : HO} (p : Keeps L L' H H') (n : some a ∉ L) (h : Rd H a u) (q : ∀ ps, u ≠ .tbl ps) : some a ∉ L' ∧ Rd H' a u := by
  rcases h with h | ⟨o, h⟩
  · exact ⟨p.out a _ n h q, .inl (p.fr a _ h n q)⟩
  · exact ⟨p.out a _ n h (fun ps z => nomatch z), .inr ⟨o, p.fr a _ h n fun ps z => nomatch z⟩⟩
theorem LstF.keeps {a : Addr} {xs : List L2.V} (p : Keeps L L' H H') (h : LstF K L H a xs) : LstF K L' H' a xs := by
  rcases h with ⟨n, h⟩ | h
  · exact .inl (rd_keeps p n h fun ps z => nomatch z)
  · exact .inr h
theorem TupF.keeps {a : Addr} {xs : List L2.V} (p : Keeps L L' H H') (h : TupF L H a xs) : TupF L' H' a xs :=
  ⟨p.out a _ h.1 h.2 (fun ps z => nomatch z), p.fr a _ h.2 h.1 fun ps z => nomatch z⟩
theorem LstF.seq {a : Addr} {xs : List L2.V} (h : LstF K L H a xs) : SqL K H a xs := by
  rcases h with ⟨_, h⟩ | h
  · exact .inl h
  · exact .inr h
theorem TupF.seq {K : PySem.W.Frag} {a : Addr} {xs : List L2.V} (h : TupF L H a xs) : SqT K H a xs := SqT.of h.2
mutual
theorem RepD.keeps (p : Keeps L L' H H') : ∀ {v : L2.V} {d : D}, RepD N K L H v d → RepD N K L' H' v d
  | _, _, .non => .non
  | _, _, .bl b => .bl b
  | _, _, .int i => .int i
  | _, _, .str x => .str x
  | _, _, .lst n h r => .lst (p.out _ _ n h (fun ps z => nomatch z)) (p.fr _ _ h n fun ps z => nomatch z) (RepDs.keeps p r)
  | _, _, .rol h r => .rol (h.keeps p) (RepDs.keeps p r)
  | _, _, .tup h r => .tup (h.keeps p) (RepDs.keeps p r)
  | _, _, .dK n h r => .dK (rd_keeps p n h fun ps z => nomatch z).1 (rd_keeps p n h fun ps z => nomatch z).2 (RepDs.keeps p r)
  | _, _, .dT n h r => .dT (rd_keeps p n h fun ps z => nomatch z).1 (rd_keeps p n h fun ps z => nomatch z).2 (RepDs.keeps p r)
  | _, _, .d3 n h => .d3 (rd_keeps p n h fun ps z => nomatch z).1 (rd_keeps p n h fun ps z => nomatch z).2
  | _, _, .dN n h k rk r => .dN (p.out _ _ n h (fun ps z => nomatch z)) (p.fr _ _ h n fun ps z => nomatch z) k (RepDs.keeps p rk) (RepDs.keeps p r)
  | _, _, .obj hc n h e r => .obj hc (p.out _ _ n h (fun ps z => nomatch z)) (p.fr _ _ h n fun ps z => nomatch z) e (RepDs.keeps p r)
theorem RepDs.keeps (p : Keeps L L' H H') : ∀ {vs : List L2.V} {ds : List D}, RepDs N K L H vs ds → RepDs N K L' H' vs ds
  | _, _, .nil => .nil
  | _, _, .cons r t => .cons (RepD.keeps p r) (RepDs.keeps p t)
end
theorem RepW.keeps {v : L2.V} {w : W} (p : Keeps L L' H H') (e : ∃ X, L' = L ++ X) (r : RepW N K L H v w) : RepW N K L' H' v w := by
  cases w with
  | d x => exact RepD.keeps p r
  | loc l =>
    obtain ⟨a, h, rfl⟩ := r
    obtain ⟨X, rfl⟩ := e
    refine ⟨a, ?_, rfl⟩
    rw [List.getElem?_append_left (List.getElem?_eq_some_iff.mp h).1]
    exact h
theorem RepW.pst {v : L2.V} {w : W} (p : Pst L L' H H') (r : RepW N K L H v w) : RepW N K L' H' v w := r.keeps p.keeps p.pre
theorem RepWs.pst (p : Pst L L' H H') : ∀ {vs : List L2.V} {ws : List W}, RepWs N K L H vs ws → RepWs N K L' H' vs ws
  | _, _, .nil => .nil
  | _, _, .cons r t => .cons (r.pst p) (RepWs.pst p t)
theorem RelE.pst {σ : L2.St} {e : TT.Env} (p : Pst L L' H H') (r : RelE N K L H σ e) : RelE N K L' H' σ e :=
  ⟨r.len, fun i w h => let ⟨v, a, b⟩ := r.at_ i w h; ⟨v, a, b.pst p⟩⟩
theorem RepDs.len : ∀ {vs : List L2.V} {ds : List D}, RepDs N K L H vs ds → vs.length = ds.length
  | _, _, .nil => rfl
  | _, _, .cons _ t => by simp [RepDs.len t]
theorem RepWs.len : ∀ {vs : List L2.V} {ws : List W}, RepWs N K L H vs ws → vs.length = ws.length
  | _, _, .nil => rfl
  | _, _, .cons _ t => by simp [RepWs.len t]
theorem RepDs.get : ∀ {vs : List L2.V} {ds : List D} {i : Nat} {d : D}, RepDs N K L H vs ds → ds[i]? = some d → ∃ v, vs[i]? = some v ∧ RepD N K L H v d
  | _, _, _, _, .nil, e => by simp at e
  | _, _, 0, _, .cons r _, e => by simp at e; subst e; exact ⟨_, rfl, r⟩
  | _, _, i + 1, _, .cons _ t, e => by
    obtain ⟨v, h1, h2⟩ := RepDs.get (i := i) t (by simpa using e)
    exact ⟨v, by simpa using h1, h2⟩
theorem RepDs.get' {vs : List L2.V} {ds : List D} {i : Nat} {v : L2.V} (r : RepDs N K L H vs ds) (e : vs[i]? = some v) : ∃ d, ds[i]? = some d ∧ RepD N K L H v d := by
  have h : i < ds.length := by rw [← r.len]; exact (List.getElem?_eq_some_iff.mp e).1
  obtain ⟨u, h1, h2⟩ := r.get (List.getElem?_eq_getElem h)
  rw [e] at h1; cases h1
  exact ⟨_, List.getElem?_eq_getElem h, h2⟩
theorem RepDs.app : ∀ {vs us : List L2.V} {ds es : List D}, RepDs N K L H vs ds → RepDs N K L H us es → RepDs N K L H (vs ++ us) (ds ++ es)
  | _, _, _, _, .nil, s => s
  | _, _, _, _, .cons r t, s => .cons r (RepDs.app t s)
theorem RepDs.take : ∀ {vs : List L2.V} {ds : List D} (n : Nat), RepDs N K L H vs ds → RepDs N K L H (vs.take n) (ds.take n)
  | _, _, 0, _ => by simpa using RepDs.nil
  | _, _, _ + 1, .nil => by simpa using RepDs.nil
  | _, _, n + 1, .cons r t => by simpa using RepDs.cons r (RepDs.take n t)
theorem RepDs.drop : ∀ {vs : List L2.V} {ds : List D} (n : Nat), RepDs N K L H vs ds → RepDs N K L H (vs.drop n) (ds.drop n)
  | _, _, 0, r => by simpa using r
  | _, _, _ + 1, .nil => by simpa using RepDs.nil
  | _, _, n + 1, .cons r t => by simpa using RepDs.drop n t
theorem RepDs.set : ∀ {vs : List L2.V} {ds : List D} {v : L2.V} {d : D} (i : Nat), RepDs N K L H vs ds → RepD N K L H v d → RepDs N K L H (vs.set i v) (ds.set i d)
  | _, _, _, _, _, .nil, _ => by simpa using RepDs.nil
  | _, _, _, _, 0, .cons r t, q => .cons q t
  | _, _, _, _, i + 1, .cons r t, q => .cons r (RepDs.set i t q)
theorem RepDs.rev : ∀ {vs : List L2.V} {ds : List D}, RepDs N K L H vs ds → RepDs N K L H vs.reverse ds.reverse
  | _, _, .nil => by simpa using RepDs.nil
  | _, _, .cons r t => by simpa using RepDs.app (RepDs.rev t) (.cons r .nil)
theorem RepDs.dropLast {vs : List L2.V} {ds : List D} (r : RepDs N K L H vs ds) : RepDs N K L H vs.dropLast ds.dropLast := by
  rw [List.dropLast_eq_take, List.dropLast_eq_take, r.len]
  exact r.take _
theorem RepDs.flat {vs : List L2.V} {ds : List D} (r : RepDs N K L H vs ds) : ∀ n : Nat, RepDs N K L H (List.replicate n vs).flatten (List.replicate n ds).flatten
  | 0 => by simpa using RepDs.nil
  | n + 1 => by
    rw [List.replicate_succ, List.replicate_succ, List.flatten_cons, List.flatten_cons]
    exact r.app (RepDs.flat r n)

/-! ### how a piece of code may end -/
def Out {α : Type} (N : Nm) (K : PySem.W.Frag) (T : List (Addr × Str)) (L : Loc) (H : Hp) (ok : α → Loc → Hp → Sto → Prop) (er : Nat → Hp → Prop) : TT.R α → Prop
  | .ok a s => ∀ L' H', Pst L L' H H' → RelS N K T L' H' s → ok a L' H' s
  | .err c s => ∀ L' H', Pst L L' H H' → RelS N K T L' H' s → er c H'
  | .no => False
variable {α β : Type} {ok ok' : α → Loc → Hp → Sto → Prop} {er er' : Nat → Hp → Prop} {r : TT.R α}
theorem Out.step (p : Pst L L' H H') (h : Out N K T L H ok er r) : Out N K T L' H' ok er r := by
  cases r with
  | ok a s => exact fun L2 H2 q z => h L2 H2 (p.trans q) z
  | err c s => exact fun L2 H2 q z => h L2 H2 (p.trans q) z
  | no => exact h
theorem Out.mono (h : Out N K T L H ok er r) (a : ∀ x L' H' s, Pst L L' H H' → RelS N K T L' H' s → ok x L' H' s → ok' x L' H' s) (b : ∀ c H', er c H' → er' c H') : Out N K T L H ok' er' r := by
  cases r with
  | ok x s => exact fun L2 H2 q z => a _ _ _ _ q z (h L2 H2 q z)
  | err c s => exact fun L2 H2 q z => b _ _ (h L2 H2 q z)
  | no => exact h
theorem Out.bind {f : α → Sto → TT.R β} {okb : β → Loc → Hp → Sto → Prop} (h : Out N K T L H okb er (r.bind f)) : Out N K T L H (fun a L' H' s => Out N K T L' H' okb er (f a s)) er r := by
  cases r with
  | ok a s => exact fun L2 H2 q z => Out.step (r := f a s) q h
  | err c s => exact h
  | no => exact h
theorem Out.here {a : α} {s : Sto} (h : Out N K T L H ok er (.ok a s)) (z : RelS N K T L H s) : ok a L H s := h L H (Pst.refl L H) z
/-! ### writes -/
/-- a new thing that nobody here changes -/
theorem Pst.new_ {p : Addr} {o : HO} (hp : H p = none) : Pst L L H (upd H p o) where
  pre := ⟨[], by simp⟩
  new := fun _ h => .inl h
  fr := fun a u h _ _ => by rw [upd_ne (ne_of_none h hp)]; exact h
  thr := fun a h => h.upd (.inl hp)
theorem Pst.grow {p : Addr} {o : HO} (hp : H p = none) : Pst L (L ++ [some p]) H (upd H p o) where
  pre := ⟨[some p], rfl⟩
  new := fun a h => by
    rcases List.mem_append.mp h with h | h
    · exact .inl h
    · rw [List.mem_singleton] at h; cases h; exact .inr (.inl hp)
  fr := fun a u h _ _ => by rw [upd_ne (ne_of_none h hp)]; exact h
  thr := fun a h => h.upd (.inl hp)
/-- a thing of the store is written -/
theorem Pst.write {p : Addr} {o : HO} (hp : some p ∈ L) (ho : ∀ ps, o ≠ .tbl ps := by intro _ h; cases h) : Pst L L H (upd H p o) where
  pre := ⟨[], by simp⟩
  new := fun _ h => .inl h
  fr := fun a u h n _ => by
    have e : a ≠ p := fun e => n (by rw [e]; exact hp)
    rw [upd_ne e]; exact h
  thr := fun a h => by
    by_cases e : a = p
    · rcases h with h | ⟨ps, h⟩
      · rw [e, upd_same] at h; cases h
      · rw [e, upd_same] at h; cases h; exact absurd rfl (ho ps)
    · unfold Free at h; rwa [upd_ne e] at h
def isMut : HO → Prop
  | .lst _ => True
  | .dK _ => True
  | .dT _ => True
  | .ins _ _ _ => True
  | .ext φ => DictPhi φ
  | _ => False
theorem tabs_upd {p : Addr} {o : HO} (t : LamX.Tabs T H) (h : ∀ u, H p = some u → (match u with | .lst _ => True | .dK _ => True | .dT _ => True | .ins _ _ _ => True | .ext φ => DictPhi φ | _ => False)) : LamX.Tabs T (upd H p o) := by
  intro q hq
  obtain ⟨ps, e, tr, c⟩ := t q hq
  have ne : q.1 ≠ p := fun z => by
    have := h _ (z ▸ e)
    exact this
  refine ⟨ps, by rw [upd_ne ne]; exact e, tr, fun pos cv hc => ?_⟩
  obtain ⟨c', rfl, e'⟩ := c pos cv hc
  have ne' : c' ≠ p := fun z => by
    have := h _ (z ▸ e')
    exact code_no_dict rfl this
  exact ⟨c', rfl, by rw [upd_ne ne']; exact e'⟩
theorem tabs_new {p : Addr} {o : HO} (t : LamX.Tabs T H) (h : H p = none) : LamX.Tabs T (upd H p o) := tabs_upd t fun u e => by rw [h] at e; cases e
theorem RepM.keeps {a : Addr} {m : M} (p : Keeps L L' H H') (h : H' a = H a) (r : RepM N K L H a m) : RepM N K L' H' a m := by
  cases r with
  | lst e r => exact .lst (h.trans e) (r.keeps p)
  | dK e r => exact .dK (h.trans e) (r.keeps p)
  | dT e r => exact .dT (h.trans e) (r.keeps p)
  | d3 e => exact .d3 (h.trans e)
  | dN e k rk r => exact .dN (h.trans e) k (rk.keeps p) (r.keeps p)
  | obj hc e f r => exact .obj hc (h.trans e) f (r.keeps p)
/-- the store stands as it was where something new was laid -/
theorem RelS.new_ {p : Addr} {o : HO} (z : RelS N K T L H s) (hp : H p = none) : RelS N K T L (upd H p o) s := by
  have ne : ∀ a, some a ∈ L → a ≠ p := fun a h e => by
    obtain ⟨u, q, _⟩ := z.there a h
    rw [e, hp] at q; cases q
  refine ⟨z.len, z.uniq, fun a h => ?_, fun l m h d => ?_, tabs_new z.tabs hp⟩
  · rw [upd_ne (ne a h)]; exact z.there a h
  · obtain ⟨a, e, r⟩ := z.at_ l m h d
    exact ⟨a, e, r.keeps (Pst.new_ hp).keeps (upd_ne (ne a (List.mem_of_getElem? e)))⟩
/-- .. and where that is the store's own now -/
theorem RelS.grow {p : Addr} {o : HO} {m : M} (z : RelS N K T L H s) (hp : H p = none) (ho : isMut o) (r : RepM N K (L ++ [some p]) (upd H p o) p m) : RelS N K T (L ++ [some p]) (upd H p o) (s ++ [m]) := by
  have ne : ∀ a, some a ∈ L → a ≠ p := fun a h e => by
    obtain ⟨u, q, _⟩ := z.there a h
    rw [e, hp] at q; cases q
  have k := (Pst.grow (L := L) (o := o) hp).keeps
  refine ⟨by simp [z.len], fun l k a h1 h2 => ?_, fun a h => ?_, fun l m' h d => ?_, tabs_new z.tabs hp⟩
  · rw [List.getElem?_append] at h1 h2
    split at h1 <;> split at h2
    · exact z.uniq l k a h1 h2
    · rename_i x y
      have e2 : some a = some p := by
        have := List.mem_of_getElem? h2
        simpa using this
      cases e2
      exact absurd rfl (ne p (List.mem_of_getElem? h1))
    · rename_i x y
      have e2 : some a = some p := by
        have := List.mem_of_getElem? h1
        simpa using this
      cases e2
      exact absurd rfl (ne p (List.mem_of_getElem? h2))
    · have h3 := (List.getElem?_eq_some_iff.mp h1).1
      have h4 := (List.getElem?_eq_some_iff.mp h2).1
      simp at h3 h4
      omega
  · rcases List.mem_append.mp h with h | h
    · rw [upd_ne (ne a h)]; exact z.there a h
    · rw [List.mem_singleton] at h; cases h
      refine ⟨o, upd_same, ?_⟩
      cases o <;> first | trivial | exact ho
  · rw [List.getElem?_append] at h
    split at h
    · rename_i hl
      obtain ⟨a, e, r'⟩ := z.at_ l m' h d
      refine ⟨a, ?_, r'.keeps k (upd_ne (ne a (List.mem_of_getElem? e)))⟩
      rw [List.getElem?_append_left (List.getElem?_eq_some_iff.mp e).1]
      exact e
    · rename_i hl
      have h3 := (List.getElem?_eq_some_iff.mp h).1
      simp at h3
      have e : l = s.length := by omega
      subst e
      simp at h
      subst h
      exact ⟨p, by rw [← z.len]; simp, r⟩
/-- a thing of the store is written -/
theorem RelS.write {p : Addr} {l : Nat} {o : HO} {m : M} (z : RelS N K T L H s) (hl : L[l]? = some (some p)) (ho : isMut o) (r : RepM N K L (upd H p o) p m) : RelS N K T L (upd H p o) (s.set l m) := by
  have hp : some p ∈ L := List.mem_of_getElem? hl
  have k := (Pst.write (H := H) (o := o) hp (fun ps e => by subst e; exact ho)).keeps
  refine ⟨by simp [z.len], z.uniq, fun a h => ?_, fun j m' h d => ?_, tabs_upd z.tabs fun u e => ?_⟩
  · by_cases e : a = p
    · rw [e]
      refine ⟨o, upd_same, ?_⟩
      cases o <;> first | trivial | exact ho
    · rw [upd_ne e]; exact z.there a h
  · rw [List.getElem?_set] at h
    split at h
    · rename_i e
      subst e
      split at h
      · cases h; exact ⟨p, hl, r⟩
      · cases h
    · rename_i e
      obtain ⟨a, e', r'⟩ := z.at_ j m' h d
      have ne : a ≠ p := fun q => e (z.uniq l j p hl (q ▸ e'))
      exact ⟨a, e', r'.keeps k (upd_ne ne)⟩
  · obtain ⟨u', e', q⟩ := z.there p hp
    rw [e] at e'; cases e'; exact q
theorem RelS.loc {l : Nat} {m : M} (z : RelS N K T L H s) (h : s[l]? = some m) (d : m ≠ .dead) : ∃ a, L[l]? = some (some a) ∧ some a ∈ L ∧ RepM N K L H a m := by
  obtain ⟨a, e, r⟩ := z.at_ l m h d
  exact ⟨a, e, List.mem_of_getElem? e, r⟩
theorem fresh_notin {p : Addr} (z : RelS N K T L H s) (hp : H p = none) : some p ∉ L := fun h => by
  obtain ⟨u, q, _⟩ := z.there p h
  rw [hp] at q; cases q
end
end TS

set_option maxRecDepth 100000
/-! Operators and built-ins, by values. -/
namespace TS
open PySem PySem.Spec PyProof.Rows L2
section
variable {N : Nm} {K : PySem.W.Frag} {T : List (Addr × Str)} {L L' : Loc} {H H' : Hp} {s : Sto}
abbrev okW (N : Nm) (K : PySem.W.Frag) (Q : VK) : W → Loc → Hp → Sto → Prop := fun w L' H' _ => ∀ v, RepW N K L' H' v w → Q v H'
theorem lstM_rep {v : L2.V} {w : W} {ds : List D} (z : RelS N K T L H s) (r : RepW N K L H v w) (h : TT.lstM s w = some ds) : ∃ a xs, v = .ref a ∧ H a = some (.lst xs) ∧ RepDs N K L H xs ds := by
  cases w with
  | d x =>
    cases x <;> simp [TT.lstM] at h
    subst h
    cases r with
    | lst n e r => exact ⟨_, _, rfl, e, r⟩
  | loc l =>
    obtain ⟨a, e, rfl⟩ := r
    simp only [TT.lstM] at h
    split at h
    · rename_i ds' e'
      cases h
      obtain ⟨b, f, _, m⟩ := z.loc e' (fun q => nomatch q)
      rw [e] at f; cases f
      cases m with
      | lst e r => exact ⟨_, _, rfl, e, r⟩
    · cases h
theorem lstOf_rep {v : L2.V} {w : W} {ds : List D} (z : RelS N K T L H s) (r : RepW N K L H v w) (h : TT.lstOf s w = some ds) : ∃ a xs, v = .ref a ∧ SqL K H a xs ∧ RepDs N K L H xs ds := by
  cases w with
  | d x =>
    cases x <;> simp [TT.lstOf] at h
    · subst h
      cases r with
      | lst n e r => exact ⟨_, _, rfl, SqL.of e, r⟩
    · subst h
      cases r with
      | rol e r => exact ⟨_, _, rfl, e.seq, r⟩
  | loc l =>
    obtain ⟨a, xs, e, f, r'⟩ := lstM_rep (w := .loc l) z r (by simpa [TT.lstOf, TT.lstM] using h)
    exact ⟨a, xs, e, SqL.of f, r'⟩
theorem seqOf_rep {v : L2.V} {w : W} {ds : List D} (z : RelS N K T L H s) (r : RepW N K L H v w) (h : TT.seqOf s w = some ds) : ∃ a xs, v = .ref a ∧ (SqL K H a xs ∨ SqT K H a xs) ∧ RepDs N K L H xs ds := by
  cases w with
  | d x =>
    cases x <;> simp [TT.seqOf] at h
    · subst h
      cases r with
      | tup e r => exact ⟨_, _, rfl, .inr e.seq, r⟩
    · subst h
      cases r with
      | lst n e r => exact ⟨_, _, rfl, .inl (SqL.of e), r⟩
    · subst h
      cases r with
      | rol e r => exact ⟨_, _, rfl, .inl e.seq, r⟩
  | loc l =>
    obtain ⟨a, xs, e, f, r'⟩ := lstM_rep (w := .loc l) z r (by simpa [TT.seqOf, TT.lstM] using h)
    exact ⟨a, xs, e, .inl (SqL.of f), r'⟩
theorem RepD.int_inv {v : L2.V} {i : Int} (r : RepD N K L H v (.int i)) : v = .int i := by cases r; rfl
theorem RepD.bl_inv {v : L2.V} {i : Bool} (r : RepD N K L H v (.bl i)) : v = .bl i := by cases r; rfl
theorem RepD.str_inv {v : L2.V} {i : Str} (r : RepD N K L H v (.str i)) : v = .str i := by cases r; rfl
theorem RepD.non_inv {v : L2.V} (r : RepD N K L H v .non) : v = .non := by cases r; rfl
theorem RepD.tup_inv {v : L2.V} {ds : List D} (r : RepD N K L H v (.tup ds)) : ∃ a xs, v = .ref a ∧ TupF L H a xs ∧ RepDs N K L H xs ds := by
  cases r with
  | tup e r => exact ⟨_, _, rfl, e, r⟩
/-- a value comes back -/
theorem fin_w {Q : VK} {er : Nat → Hp → Prop} {fz : Bool} {v : L2.V} {w : W} (z : RelS N K T L H s) (h : Out N K T L H (okW N K Q) er ((TT.R.ok (.w w) s).bind (TT.fin fz))) (r : RepW N K L H v w) : Q v H :=
  Out.here (a := w) h z v r
theorem fin_d {Q : VK} {er : Nat → Hp → Prop} {fz : Bool} {v : L2.V} {d : D} (z : RelS N K T L H s) (h : Out N K T L H (okW N K Q) er ((TT.d1 d s).bind (TT.fin fz))) (r : RepD N K L H v d) : Q v H :=
  fin_w z h (w := .d d) r
theorem fin_int {Q : VK} {er : Nat → Hp → Prop} {fz : Bool} {i : Int} (z : RelS N K T L H s) (h : Out N K T L H (okW N K Q) er ((TT.int1 i s).bind (TT.fin fz))) : Q (.int i) H :=
  fin_w z h (w := .d (.int i)) (.int i)
theorem fin_bl {Q : VK} {er : Nat → Hp → Prop} {fz : Bool} {i : Bool} (z : RelS N K T L H s) (h : Out N K T L H (okW N K Q) er ((TT.bl1 i s).bind (TT.fin fz))) : Q (.bl i) H :=
  fin_w z h (w := .d (.bl i)) (.bl i)
/-- a new list comes back -/
theorem fin_fl' {Q : VK} {er : Nat → Hp → Prop} {fz : Bool} {ds : List D} {xs : List L2.V} {p : Addr} (z : RelS N K T L H s) (h : Out N K T L H (okW N K Q) er (TT.fin fz (.fl ds) s)) (r : RepDs N K L H xs ds) (hp : H p = none) :
    Q (.ref p) (upd H p (.lst xs)) := by
  cases fz with
  | true =>
    have h' : Out N K T L H (okW N K Q) er (.ok (.d (.lst ds)) s) := h
    exact h' L _ (Pst.new_ hp) (z.new_ hp) _ (RepD.lst (fresh_notin z hp) upd_same (r.keeps (Pst.new_ hp).keeps))
  | false =>
    have h' : Out N K T L H (okW N K Q) er (.ok (.loc s.length) (s ++ [.lst ds])) := h
    refine h' (L ++ [some p]) _ (Pst.grow hp) (z.grow hp (show isMut (.lst xs) from trivial) (.lst upd_same (r.keeps (Pst.grow hp).keeps))) _ ⟨p, ?_, rfl⟩
    rw [← z.len]; simp
theorem fin_fl {Q : VK} {er : Nat → Hp → Prop} {fz : Bool} {ds : List D} {xs : List L2.V} {p : Addr} (z : RelS N K T L H s) (h : Out N K T L H (okW N K Q) er ((TT.R.ok (.fl ds) s).bind (TT.fin fz))) (r : RepDs N K L H xs ds) (hp : H p = none) :
    Q (.ref p) (upd H p (.lst xs)) := fin_fl' z h r hp
/-- a new tuple comes back -/
theorem fin_tup {Q : VK} {er : Nat → Hp → Prop} {fz : Bool} {ds : List D} {xs : List L2.V} {p : Addr} (z : RelS N K T L H s) (h : Out N K T L H (okW N K Q) er ((TT.d1 (.tup ds) s).bind (TT.fin fz))) (r : RepDs N K L H xs ds) (hp : H p = none) :
    Q (.ref p) (upd H p (.tup xs)) := by
  have h' : Out N K T L H (okW N K Q) er (.ok (.d (.tup ds)) s) := h
  exact h' L _ (Pst.new_ hp) (z.new_ hp) _ (RepD.tup ⟨fresh_notin z hp, upd_same⟩ (r.keeps (Pst.new_ hp).keeps))
theorem no_out {Q : VK} {er : Nat → Hp → Prop} {fz : Bool} {P : Prop} (h : Out N K T L H (okW N K Q) er ((TT.R.no : TT.R TT.Vl).bind (TT.fin fz))) : P := False.elim h
theorem small_le {n : Nat} (h : TT.small n = true) : n ≤ 10000 := of_decide_eq_true h
end
/-- a two-place operation and what it is here -/
def Snd2 (N : Nm) (X : Cx) (T : List (Addr × Str)) (f : Value → Value → Sem Value) (g : W → W → Sto → TT.R TT.Vl) : Prop :=
  ∃ r : R2, OpR X f r ∧ ∀ (fz : Bool) (L : Loc) (H : Hp) (s : Sto) (x y : L2.V) (wx wy : W) (Q : VK) (er : Nat → Hp → Prop), RelS N X.K T L H s → RepW N X.K L H x wx → RepW N X.K L H y wy →
    Out N X.K T L H (okW N X.K Q) er ((g wx wy s).bind (TT.fin fz)) → r x y H Q
section
variable {N : Nm} {X : Cx} {T : List (Addr × Str)}
theorem snd_int2 {f : Value → Value → Sem Value} {g : Int → Int → Option D} {C : Int → Int → Prop} {gV : Int → Int → L2.V} (h : OpR X f (rI C gV))
    (hg : ∀ i j d, g i j = some d → C i j ∧ ∀ L H, RepD N X.K L H (gV i j) d) : Snd2 N X T f (TT.int2 g) := by
  refine ⟨_, h, fun fz L H s x y wx wy Q er z rx ry o => ?_⟩
  unfold TT.int2 at o
  split at o
  · rename_i i j
    cases e : g i j with
    | none => rw [e] at o; exact no_out o
    | some d =>
      rw [e] at o
      obtain ⟨hc, hr⟩ := hg i j d e
      exact ⟨i, j, RepD.int_inv rx, RepD.int_inv ry, hc, fin_d z o (hr L H)⟩
  · exact no_out o
theorem rI_of {f : Value → Value → Sem Value} {g : Int → Int → L2.V} (h : OpR X f (rI0 g)) : OpR X f (rI (fun _ _ => True) g) := fun pins s σ H x y v u Q I rx ry q => by
  obtain ⟨i, j, e1, e2, _, q⟩ := q
  exact h pins s σ H x y v u Q I rx ry ⟨i, j, e1, e2, q⟩
theorem snd_sub : Snd2 N X T (binaryOp .Sub) (fun x y s => TT.opSem .sub [x, y] s) :=
  snd_int2 (rI_of op_sub) fun i j d e => by cases e; exact ⟨trivial, fun L H => .int _⟩
theorem snd_fdiv : Snd2 N X T (binaryOp .FloorDiv) (fun x y s => TT.opSem .fdiv [x, y] s) :=
  snd_int2 op_fdiv fun i j d e => by
    split at e
    · rename_i h
      cases e; exact ⟨h, fun L H => .int _⟩
    · cases e
theorem snd_mod : Snd2 N X T (binaryOp .Mod) (fun x y s => TT.opSem .mod [x, y] s) :=
  snd_int2 op_mod fun i j d e => by
    split at e
    · rename_i h
      cases e; exact ⟨h, fun L H => .int _⟩
    · cases e
theorem big_ok {i : Int} (h : TT.big i = true) : i.natAbs < 2 ^ 64 := of_decide_eq_true h
theorem snd_pow : Snd2 N X T (binaryOp .Pow) (fun x y s => TT.opSem .pow [x, y] s) :=
  snd_int2 op_pow fun i j d e => by
    split at e
    · rename_i h
      cases e
      exact ⟨⟨h.1, by omega, big_ok h.2.2⟩, fun L H => .int _⟩
    · cases e
theorem snd_le : Snd2 N X T (compareOp .LtE) (fun x y s => TT.opSem .le [x, y] s) :=
  snd_int2 (rI_of op_le) fun i j d e => by cases e; exact ⟨trivial, fun L H => .bl _⟩
theorem snd_gt : Snd2 N X T (compareOp .Gt) (fun x y s => TT.opSem .gt [x, y] s) :=
  snd_int2 (rI_of op_gt) fun i j d e => by cases e; exact ⟨trivial, fun L H => .bl _⟩
theorem snd_ge : Snd2 N X T (compareOp .GtE) (fun x y s => TT.opSem .ge [x, y] s) :=
  snd_int2 (rI_of op_ge) fun i j d e => by cases e; exact ⟨trivial, fun L H => .bl _⟩
theorem snd_add : Snd2 N X T (binaryOp .Add) (fun x y s => TT.opSem .add [x, y] s) := by
  refine ⟨_, (op_add.or op_add_str).or (op_catA.or op_cat), fun fz L H s x y wx wy Q er z rx ry o => ?_⟩
  simp only [TT.opSem] at o
  unfold TT.addS at o
  split at o
  · exact .inl (.inl ⟨_, _, RepD.int_inv rx, RepD.int_inv ry, fin_int z o⟩)
  · split at o
    · rename_i h
      rw [Bool.and_eq_true] at h
      have h1 := small_le h.1
      have h2 := small_le h.2
      exact .inl (.inr ⟨_, _, RepD.str_inv rx, RepD.str_inv ry, by rw [sizeLine_eq]; omega, fin_d z o (.str _)⟩)
    · exact no_out o
  · split at o
    · rename_i h
      rw [Bool.and_eq_true] at h
      have h1 := small_le h.1
      have h2 := small_le h.2
      obtain ⟨a, xs, rfl, ha, ra⟩ := RepD.tup_inv rx
      obtain ⟨b, ys, rfl, hb, rb⟩ := RepD.tup_inv ry
      have l1 := ra.len
      have l2 := rb.len
      refine .inr (.inl ⟨a, b, xs, ys, rfl, rfl, ha.seq, hb.seq, by rw [sizeLine_eq]; omega, fun e => ?_, fun _ e => ?_, fun _ _ p hp => fin_tup z o (ra.app rb) hp⟩)
      · subst e
        cases ra
        exact fin_d z o ry
      · subst e
        cases rb
        rw [List.append_nil] at o
        exact fin_d z o rx
    · exact no_out o
  · split at o
    · rename_i e1 e2
      split at o
      · rename_i h
        rw [Bool.and_eq_true] at h
        have h1 := small_le h.1
        have h2 := small_le h.2
        obtain ⟨a, xs, rfl, ha, ra⟩ := lstM_rep z rx e1
        obtain ⟨b, ys, rfl, hb, rb⟩ := lstM_rep z ry e2
        have l1 := ra.len
        have l2 := rb.len
        exact .inr (.inr ⟨a, b, xs, ys, rfl, rfl, ha, hb, by rw [sizeLine_eq]; omega, fun p hp => fin_fl z o (ra.app rb) hp⟩)
      · exact no_out o
    · exact no_out o
theorem snd_mul : Snd2 N X T (binaryOp .Mult) (fun x y s => TT.opSem .mul [x, y] s) := by
  refine ⟨_, op_mul.or (op_repT.or op_rep), fun fz L H s x y wx wy Q er z rx ry o => ?_⟩
  simp only [TT.opSem] at o
  unfold TT.mulS at o
  split at o
  · split at o
    · rename_i i j h
      rw [Bool.or_eq_true] at h
      refine .inl ⟨_, _, RepD.int_inv rx, RepD.int_inv ry, ?_, fin_int z o⟩
      rcases h with h | h
      · have := big_ok h
        exact .inl (by omega)
      · have := big_ok h
        exact .inr (by omega)
    · exact no_out o
  · split at o
    · rename_i h
      obtain ⟨a, xs, rfl, ha, ra⟩ := RepD.tup_inv rx
      have l1 := ra.len
      refine .inr (.inl ⟨a, _, xs, rfl, RepD.int_inv ry, ha.seq, fun e => ?_, h.2.2.1, h.2.2.2, by omega, fun p hp => fin_tup z o (ra.flat _) hp⟩)
      subst e
      cases ra
      exact h.1 rfl
    · exact no_out o
  · split at o
    · rename_i e1
      split at o
      · rename_i h
        rw [Bool.and_eq_true, Bool.and_eq_true] at h
        have h1 := small_le h.1.1
        have h2 := of_decide_eq_true h.1.2
        have h3 := of_decide_eq_true h.2
        obtain ⟨a, xs, rfl, ha, ra⟩ := lstM_rep z rx e1
        have l1 := ra.len
        refine .inr (.inr ⟨a, _, xs, rfl, RepD.int_inv ry, ha, by omega, by omega, ?_, fun p hp => fin_fl z o (ra.flat _) hp⟩)
        rw [sizeLine_eq]
        refine Nat.le_trans (Nat.mul_le_mul (l1 ▸ h1) (show _ ≤ 1000 by omega)) (by decide)
      · exact no_out o
    · exact no_out o
  · exact no_out o
theorem snd_isN : Snd2 N X T (compareOp .Is) (fun x y s => TT.opSem .isN [x, y] s) := by
  refine ⟨_, op_isN, fun fz L H s x y wx wy Q er z rx ry o => ?_⟩
  simp only [TT.opSem] at o
  unfold TT.isNS at o
  split at o
  · refine ⟨RepD.non_inv ry, ?_⟩
    have e : decide (x = .non) = decide (wx = .d .non) := by
      cases wx with
      | d d =>
        cases d with
        | non => rw [RepD.non_inv rx]; simp
        | _ => cases rx <;> simp
      | loc l =>
        obtain ⟨a, _, rfl⟩ := rx
        simp
    rw [e]
    exact fin_bl z o
  · exact no_out o
theorem snd_notN : Snd2 N X T (compareOp .IsNot) (fun x y s => TT.opSem .notN [x, y] s) := by
  refine ⟨_, op_notN, fun fz L H s x y wx wy Q er z rx ry o => ?_⟩
  simp only [TT.opSem] at o
  unfold TT.isNS at o
  split at o
  · refine ⟨RepD.non_inv ry, ?_⟩
    have e : decide (x = .non) = decide (wx = .d .non) := by
      cases wx with
      | d d =>
        cases d with
        | non => rw [RepD.non_inv rx]; simp
        | _ => cases rx <;> simp
      | loc l =>
        obtain ⟨a, _, rfl⟩ := rx
        simp
    rw [e]
    exact fin_bl z o
  · exact no_out o
theorem snd_isB : Snd2 N X T (compareOp .Is) (fun x y s => TT.opSem .isB [x, y] s) := by
  refine ⟨_, op_isBl, fun fz L H s x y wx wy Q er z rx ry o => ?_⟩
  simp only [TT.opSem] at o
  unfold TT.isBS at o
  split at o
  · exact ⟨_, _, RepD.bl_inv rx, RepD.bl_inv ry, fin_bl z o⟩
  · exact no_out o
theorem snd_notB : Snd2 N X T (compareOp .IsNot) (fun x y s => TT.opSem .notB [x, y] s) := by
  refine ⟨_, op_notBl, fun fz L H s x y wx wy Q er z rx ry o => ?_⟩
  simp only [TT.opSem] at o
  unfold TT.isBS at o
  split at o
  · exact ⟨_, _, RepD.bl_inv rx, RepD.bl_inv ry, fin_bl z o⟩
  · exact no_out o
end
end TS

set_option maxRecDepth 100000
/-! Data held against data; membership; items; built-ins of one thing. -/
namespace TS
open PySem PySem.Spec PyProof.Rows L2
mutual
def py : D → PyData
  | .non => .none
  | .bl b => .bool b
  | .int i => .int i
  | .str x => .str x
  | .tup ds => .tuple (pys ds)
  | .lst ds => .list (pys ds)
  | _ => .none
def pys : List D → List PyData
  | [] => []
  | d :: ds => py d :: pys ds
end
mutual
theorem py_plain (b : Bool) : ∀ (n : Nat) (d : D), TT.D.pl b n d = true → (py d).plain = true
  | _, .non, _ => rfl
  | _, .bl _, _ => rfl
  | _, .int _, _ => rfl
  | _, .str _, _ => rfl
  | 0, .tup ds, h => by simp [TT.D.pl] at h
  | n + 1, .tup ds, h => pys_plain b n ds (by simpa [TT.D.pl] using h)
  | 0, .lst ds, h => by simp [TT.D.pl] at h
  | n + 1, .lst ds, h => pys_plain b n ds (by simpa [TT.D.pl] using h)
  | _, .rol _, h => by simp [TT.D.pl] at h
  | _, .dct _ _ _, h => by simp [TT.D.pl] at h
  | _, .obj _ _ _, h => by simp [TT.D.pl] at h
theorem pys_plain (b : Bool) : ∀ (n : Nat) (ds : List D), TT.Ds.pl b n ds = true → PyData.plainAll (pys ds) = true
  | _, [], _ => rfl
  | n, d :: ds, h => by
    simp only [TT.Ds.pl, Bool.and_eq_true] at h
    simp only [pys, PyData.plainAll, py_plain b n d h.1, pys_plain b n ds h.2, Bool.and_self]
end
mutual
theorem py_depth (b : Bool) : ∀ (n : Nat) (d : D), TT.D.pl b n d = true → (py d).depth ≤ n
  | _, .non, _ => by simp [py, PyData.depth]
  | _, .bl _, _ => by simp [py, PyData.depth]
  | _, .int _, _ => by simp [py, PyData.depth]
  | _, .str _, _ => by simp [py, PyData.depth]
  | 0, .tup ds, h => by simp [TT.D.pl] at h
  | n + 1, .tup ds, h => by
    have := pys_depth b n ds (by simpa [TT.D.pl] using h)
    simp only [py, PyData.depth]; omega
  | 0, .lst ds, h => by simp [TT.D.pl] at h
  | n + 1, .lst ds, h => by
    have := pys_depth b n ds (by simpa [TT.D.pl] using h)
    simp only [py, PyData.depth]; omega
  | _, .rol _, h => by simp [TT.D.pl] at h
  | _, .dct _ _ _, h => by simp [TT.D.pl] at h
  | _, .obj _ _ _, h => by simp [TT.D.pl] at h
theorem pys_depth (b : Bool) : ∀ (n : Nat) (ds : List D), TT.Ds.pl b n ds = true → PyData.depthAll (pys ds) ≤ n
  | _, [], _ => by simp [pys, PyData.depthAll]
  | n, d :: ds, h => by
    simp only [TT.Ds.pl, Bool.and_eq_true] at h
    have h1 := py_depth b n d h.1
    have h2 := pys_depth b n ds h.2
    simp only [pys, PyData.depthAll]; omega
end
theorem pl_tup {b : Bool} {n : Nat} {ds : List D} (h : TT.D.pl b n (.tup ds) = true) : ∃ k, TT.Ds.pl b k ds = true := by
  cases n with
  | zero => simp [TT.D.pl] at h
  | succ k => exact ⟨k, by simpa [TT.D.pl] using h⟩
theorem pl_lst {b : Bool} {n : Nat} {ds : List D} (h : TT.D.pl b n (.lst ds) = true) : ∃ k, TT.Ds.pl b k ds = true := by
  cases n with
  | zero => simp [TT.D.pl] at h
  | succ k => exact ⟨k, by simpa [TT.D.pl] using h⟩
mutual
theorem py_eqv (b : Bool) : ∀ (d : D) (n m : Nat) (e : D), TT.D.pl b n d = true → TT.D.pl b m e = true → PyData.eqv (py d) (py e) = decide (d = e)
  | .non, n, m, e, hd, he => by cases e <;> first | (simp [TT.D.pl] at he; done) | simp [py, PyData.eqv]
  | .bl x, n, m, e, hd, he => by cases e <;> first | (simp [TT.D.pl] at he; done) | (simp [TT.D.pl] at hd he; simp_all; done) | (cases b <;> simp_all [TT.D.pl, py, PyData.eqv] <;> rfl)
  | .int x, n, m, e, hd, he => by cases e <;> first | (simp [TT.D.pl] at he; done) | (cases b <;> simp_all [TT.D.pl, py, PyData.eqv] <;> rfl)
  | .str x, n, m, e, hd, he => by cases e <;> first | (simp [TT.D.pl] at he; done) | (cases b <;> simp_all [TT.D.pl, py, PyData.eqv] <;> rfl)
  | .tup ds, n, m, e, hd, he => by
    obtain ⟨k, hk⟩ := pl_tup hd
    cases e <;> first | (simp [TT.D.pl] at he; done) | (simp [py, PyData.eqv]; done) | skip
    rename_i es
    obtain ⟨j, hj⟩ := pl_tup he
    simp only [py, PyData.eqv, pys_eqv b ds k j es hk hj, TT.D.tup.injEq]
  | .lst ds, n, m, e, hd, he => by
    obtain ⟨k, hk⟩ := pl_lst hd
    cases e <;> first | (simp [TT.D.pl] at he; done) | (simp [py, PyData.eqv]; done) | skip
    rename_i es
    obtain ⟨j, hj⟩ := pl_lst he
    simp only [py, PyData.eqv, pys_eqv b ds k j es hk hj, TT.D.lst.injEq]
  | .rol _, _, _, _, hd, _ => by simp [TT.D.pl] at hd
  | .dct _ _ _, _, _, _, hd, _ => by simp [TT.D.pl] at hd
  | .obj _ _ _, _, _, _, hd, _ => by simp [TT.D.pl] at hd
theorem pys_eqv (b : Bool) : ∀ (ds : List D) (n m : Nat) (es : List D), TT.Ds.pl b n ds = true → TT.Ds.pl b m es = true → PyData.eqvAll (pys ds) (pys es) = decide (ds = es)
  | [], _, _, [], _, _ => by simp [pys, PyData.eqvAll]
  | [], _, _, e :: es, _, _ => by simp [pys, PyData.eqvAll]
  | d :: ds, _, _, [], _, _ => by simp [pys, PyData.eqvAll]
  | d :: ds, n, m, e :: es, hd, he => by
    simp only [TT.Ds.pl, Bool.and_eq_true] at hd he
    simp only [pys, PyData.eqvAll, py_eqv b d n m e hd.1 he.1, pys_eqv b ds n m es hd.2 he.2, List.cons.injEq, Bool.decide_and]
end
theorem pys_any (b : Bool) (n m : Nat) (d : D) (hd : TT.D.pl b m d = true) : ∀ ds : List D, TT.Ds.pl b n ds = true → ((pys ds).any fun y => PyData.eqv y (py d)) = decide (d ∈ ds)
  | [], _ => by simp [pys]
  | e :: es, h => by
    simp only [TT.Ds.pl, Bool.and_eq_true] at h
    simp only [pys, List.any_cons, py_eqv b e n m d h.1 hd, pys_any b n m d hd es h.2, List.mem_cons, Bool.decide_or]
    congr 1
    exact decide_eq_decide.mpr ⟨fun q => q.symm, fun q => q.symm⟩
section
variable {N : Nm} {K : PySem.W.Frag} {T : List (Addr × Str)} {L L' : Loc} {H H' : Hp} {s : Sto}
mutual
theorem RepD.dp (b : Bool) : ∀ (n : Nat) (d : D) (v : L2.V), TT.D.pl b n d = true → RepD N K L H v d → Dp K H v (py d)
  | _, .non, _, _, r => by cases r; exact .non
  | _, .bl b, _, _, r => by cases r; exact .bl b
  | _, .int i, _, _, r => by cases r; exact .int i
  | _, .str x, _, _, r => by cases r; exact .str x
  | 0, .tup ds, _, h, _ => by simp [TT.D.pl] at h
  | n + 1, .tup ds, _, h, r => by
    cases r with
    | tup e r => exact .tup e.seq (RepDs.dp b n ds _ (by simpa [TT.D.pl] using h) r)
  | 0, .lst ds, _, h, _ => by simp [TT.D.pl] at h
  | n + 1, .lst ds, _, h, r => by
    cases r with
    | lst _ e r => exact .lst (SqL.of e) (RepDs.dp b n ds _ (by simpa [TT.D.pl] using h) r)
  | _, .rol _, _, h, _ => by simp [TT.D.pl] at h
  | _, .dct _ _ _, _, h, _ => by simp [TT.D.pl] at h
  | _, .obj _ _ _, _, h, _ => by simp [TT.D.pl] at h
theorem RepDs.dp (b : Bool) : ∀ (n : Nat) (ds : List D) (vs : List L2.V), TT.Ds.pl b n ds = true → RepDs N K L H vs ds → DpAll K H vs (pys ds)
  | _, [], _, _, r => by cases r; exact .nil
  | n, d :: ds, _, h, r => by
    simp only [TT.Ds.pl, Bool.and_eq_true] at h
    cases r with
    | cons r t => exact .cons (RepD.dp b n d _ h.1 r) (RepDs.dp b n ds _ h.2 t)
end
theorem datOf_dp {b : Bool} {n : Nat} {v : L2.V} {w : W} {d : D} (z : RelS N K T L H s) (r : RepW N K L H v w) (h : TT.datOf s w = some d) (hp : TT.D.pl b n d = true) : Dp K H v (py d) := by
  cases w with
  | d x =>
    simp only [TT.datOf, Option.some.injEq] at h
    subst h
    exact RepD.dp b n _ _ hp r
  | loc l =>
    simp only [TT.datOf] at h
    split at h
    · rename_i ds e
      cases h
      obtain ⟨a, xs, rfl, q, rs⟩ := lstM_rep (w := .loc l) (ds := ds) z r (by simp only [TT.lstM, e])
      cases n with
      | zero => simp [TT.D.pl] at hp
      | succ n => exact .lst (SqL.of q) (RepDs.dp b n ds _ (by simpa [TT.D.pl] using hp) rs)
    · cases h
theorem fair_ex {a b : D} (h : TT.fair a b = true) : ∃ q, TT.D.pl q 12 a = true ∧ TT.D.pl q 12 b = true := by
  simp only [TT.fair, Bool.or_eq_true, Bool.and_eq_true] at h
  rcases h with h | h
  · exact ⟨_, h⟩
  · exact ⟨_, h⟩
end
section
variable {N : Nm} {X : Cx} {T : List (Addr × Str)}
/-- == and != of data -/
def rEqP (K : PySem.W.Frag) (neg : Bool) : R2 := fun x y H Q => ∃ d e, Dp K H x d ∧ Dp K H y e ∧ d.plain = true ∧ e.plain = true ∧ d.depth ≤ 12 ∧ Q (.bl (if neg then !PyData.eqv d e else PyData.eqv d e)) H
theorem op_eqP (hu : X.A.units + 64 < cLine) : OpR X (compareOp .Eq) (rEqP X.K false) := by
  intro pins s σ H x y v u Q I rx ry h
  obtain ⟨d, e, hd, he, pd, pe, dd, q⟩ := h
  obtain ⟨as, r1⟩ := Dp.reads I d x v hd rx
  obtain ⟨bs, r2⟩ := Dp.reads I e y u he ry
  exact SeqAt.eq_plain r1 r2 pd pe (by omega) ⟨.bl _, H, I, rfl, q⟩
theorem op_neP (hu : X.A.units + 64 < cLine) : OpR X (compareOp .NotEq) (rEqP X.K true) := by
  intro pins s σ H x y v u Q I rx ry h
  obtain ⟨d, e, hd, he, pd, pe, dd, q⟩ := h
  obtain ⟨as, r1⟩ := Dp.reads I d x v hd rx
  obtain ⟨bs, r2⟩ := Dp.reads I e y u he ry
  exact SeqAt.ne_plain r1 r2 pd pe (by omega) ⟨.bl _, H, I, rfl, q⟩
mutual
theorem kn_pl : ∀ (n : Nat) (d : D), TT.D.kn n d = true → TT.D.pl false n d = true
  | n, .non, _ => by simp [TT.D.pl]
  | n, .int _, _ => by simp [TT.D.pl]
  | n + 1, .tup ds, h => by simp only [TT.D.kn] at h; simp only [TT.D.pl]; exact kns_pl n ds h
  | 0, .tup _, h => by simp [TT.D.kn] at h
  | n, .bl _, h => by simp [TT.D.kn] at h
  | n, .str _, h => by simp [TT.D.kn] at h
  | n, .lst _, h => by simp [TT.D.kn] at h
  | n, .rol _, h => by simp [TT.D.kn] at h
  | n, .dct _ _ _, h => by simp [TT.D.kn] at h
  | n, .obj _ _ _, h => by simp [TT.D.kn] at h
theorem kns_pl : ∀ (n : Nat) (ds : List D), TT.Ds.kn n ds = true → TT.Ds.pl false n ds = true
  | n, [], _ => by cases n <;> simp [TT.Ds.pl]
  | n, d :: ds, h => by
    simp only [TT.Ds.kn, Bool.and_eq_true] at h
    simp only [TT.Ds.pl, Bool.and_eq_true]
    exact ⟨kn_pl n d h.1, kns_pl n ds h.2⟩
end
mutual
theorem al_py : ∀ (n : Nat) (a b : D), TT.D.al n a b = true → PySem.W.alike (py a) (py b) = true
  | n, .int _, b, h => by cases b <;> first | (simp [TT.D.al] at h; done) | simp [py, PySem.W.alike]
  | n + 1, .tup x, b, h => by
    cases b <;> first | (simp [TT.D.al] at h; done) | skip
    rename_i y
    simp only [TT.D.al] at h
    simp only [py, PySem.W.alike]
    exact als_py n x y h
  | 0, .tup x, b, h => by cases b <;> simp [TT.D.al] at h
  | n, .non, b, h => by simp [TT.D.al] at h
  | n, .bl _, b, h => by simp [TT.D.al] at h
  | n, .str _, b, h => by simp [TT.D.al] at h
  | n, .lst _, b, h => by simp [TT.D.al] at h
  | n, .rol _, b, h => by simp [TT.D.al] at h
  | n, .dct _ _ _, b, h => by simp [TT.D.al] at h
  | n, .obj _ _ _, b, h => by simp [TT.D.al] at h
theorem als_py : ∀ (n : Nat) (a b : List D), TT.Ds.al n a b = true → PySem.W.alikeAll (pys a) (pys b) = true
  | n, [], b, h => by simp [pys, PySem.W.alikeAll]
  | n, x :: xs, [], h => by simp [pys, PySem.W.alikeAll]
  | n, x :: xs, y :: ys, h => by
    simp only [TT.Ds.al, Bool.and_eq_true] at h
    simp only [pys, PySem.W.alikeAll, Bool.and_eq_true]
    exact ⟨al_py n x y h.1, als_py n xs ys h.2⟩
end
mutual
theorem lt_py : ∀ (n : Nat) (a b : D) (r : Bool), TT.D.al n a b = true → TT.D.pl false n a = true → TT.D.pl false n b = true → TT.D.lt a b = some r → PySem.W.dataLt (py a) (py b) = r
  | n, .int i, b, r, h, _, _, e => by
    cases b <;> first | (simp [TT.D.al] at h; done) | skip
    simp only [TT.D.lt, Option.some.injEq] at e
    simp only [py]
    rw [PySem.W.dataLt_int, e]
  | n + 1, .tup x, b, r, h, ha, hb, e => by
    cases b <;> first | (simp [TT.D.al] at h; done) | skip
    rename_i y
    simp only [TT.D.al] at h
    simp only [TT.D.pl] at ha hb
    simp only [TT.D.lt] at e
    simp only [py]
    rw [PySem.W.dataLt_tuple]
    exact lts_py n x y r h ha hb e
  | 0, .tup x, b, r, h, _, _, _ => by cases b <;> simp [TT.D.al] at h
  | n, .non, b, r, h, _, _, _ => by simp [TT.D.al] at h
  | n, .bl _, b, r, h, _, _, _ => by simp [TT.D.al] at h
  | n, .str _, b, r, h, _, _, _ => by simp [TT.D.al] at h
  | n, .lst _, b, r, h, _, _, _ => by simp [TT.D.al] at h
  | n, .rol _, b, r, h, _, _, _ => by simp [TT.D.al] at h
  | n, .dct _ _ _, b, r, h, _, _, _ => by simp [TT.D.al] at h
  | n, .obj _ _ _, b, r, h, _, _, _ => by simp [TT.D.al] at h
theorem lts_py : ∀ (n : Nat) (a b : List D) (r : Bool), TT.Ds.al n a b = true → TT.Ds.pl false n a = true → TT.Ds.pl false n b = true → TT.Ds.lt a b = some r → PyProof.Rows.lexLt itemOrd (PySem.W.keyToksAll (pys a)) (PySem.W.keyToksAll (pys b)) = r
  | n, [], [], r, _, _, _, e => by
    simp only [TT.Ds.lt, Option.some.injEq] at e
    subst e
    exact PyProof.Rows.lex_irrefl _
  | n, [], y :: ys, r, _, _, _, e => by
    simp only [TT.Ds.lt, Option.some.injEq] at e
    subst e
    simp only [pys]
    rw [PySem.W.toks_all_cons]
    simp only [PySem.W.keyToksAll]
    rw [PyProof.Rows.lex_diff (O := itemOrd) (by simp)]
    rfl
  | n, x :: xs, [], r, _, _, _, e => by
    simp only [TT.Ds.lt, Option.some.injEq] at e
    subst e
    simp only [pys]
    rw [PySem.W.toks_all_cons]
    simp only [PySem.W.keyToksAll]
    rw [PyProof.Rows.lex_diff (O := itemOrd) (by simp)]
    rfl
  | n, x :: xs, y :: ys, r, h, ha, hb, e => by
    simp only [TT.Ds.al, Bool.and_eq_true] at h
    simp only [TT.Ds.pl, Bool.and_eq_true] at ha hb
    simp only [TT.Ds.lt] at e
    simp only [pys]
    have q := py_eqv false x n n y ha.1 hb.1
    by_cases z : x = y
    · rw [if_pos z] at e
      rw [PySem.W.dataLt_all_yes (al_py n x y h.1) (by rw [q]; exact decide_eq_true z)]
      exact lts_py n xs ys r h.2 ha.2 hb.2 e
    · rw [if_neg z] at e
      rw [PySem.W.dataLt_all_no (al_py n x y h.1) (by rw [q]; exact decide_eq_false z)]
      exact lt_py n x y r h.1 ha.1 hb.1 e
end
def rLtD (K : PySem.W.Frag) : R2 := fun x y H Q => ∃ d e, Dp K H x d ∧ Dp K H y e ∧ PySem.W.alike d e = true ∧ d ≠ .none ∧ d.depth ≤ 12 ∧ Q (.bl (PySem.W.dataLt d e)) H
theorem op_ltD (hu : X.A.units + 64 < cLine) : OpR X (compareOp .Lt) (rLtD X.K) := by
  intro pins s σ H x y v u Q I rx ry h
  obtain ⟨d, e, hd, he, al, nn, dd, q⟩ := h
  obtain ⟨as, r1⟩ := Dp.reads I d x v hd rx
  obtain ⟨bs, r2⟩ := Dp.reads I e y u he ry
  exact PySem.W.lt_data r1 r2 al nn (by omega) ⟨.bl _, H, I, rfl, q⟩
theorem snd_lt (hu : X.A.units + 64 < cLine) : Snd2 N X T (compareOp .Lt) (fun x y s => TT.opSem .lt [x, y] s) := by
  refine ⟨_, op_ltD hu, fun fz L H s x y wx wy Q er z rx ry o => ?_⟩
  simp only [TT.opSem] at o
  unfold TT.ltS at o
  split at o
  · rename_i i j
    refine ⟨.int i, .int j, datOf_dp (b := false) (n := 0) (d := .int i) z rx rfl rfl, datOf_dp (b := false) (n := 0) (d := .int j) z ry rfl rfl, al_py 0 (.int i) (.int j) rfl, (nofun), by simp [PyData.depth], ?_⟩
    rw [PySem.W.dataLt_int]
    exact fin_bl z o
  · rename_i a b
    split at o
    · rename_i h
      simp only [Bool.and_eq_true] at h
      have ha : TT.D.pl false 8 (.tup a) = true := kns_pl 7 a h.1.2
      have hb : TT.D.pl false 8 (.tup b) = true := kns_pl 7 b h.2
      cases e : TT.Ds.lt a b with
      | none => rw [e] at o; exact no_out o
      | some r =>
        rw [e] at o
        refine ⟨py (.tup a), py (.tup b), datOf_dp z rx rfl ha, datOf_dp z ry rfl hb, al_py 8 (.tup a) (.tup b) h.1.1, (nofun), Nat.le_trans (py_depth _ _ _ ha) (by omega), ?_⟩
        rw [lt_py 8 (.tup a) (.tup b) r h.1.1 ha hb e]
        exact fin_bl z o
    · exact no_out o
  · exact no_out o
theorem eqS_snd {fz : Bool} {L : Loc} {H : Hp} {s : Sto} {x y : L2.V} {wx wy : W} {Q : VK} {er : Nat → Hp → Prop} (z : RelS N X.K T L H s) (rx : RepW N X.K L H x wx) (ry : RepW N X.K L H y wy)
    (o : Out N X.K T L H (okW N X.K Q) er ((TT.eqS true wx wy s).bind (TT.fin fz))) : rEqP X.K true x y H Q := by
  unfold TT.eqS at o
  split at o
  · rename_i a b e1 e2
    simp only [if_true] at o
    unfold TT.pyEq at o
    split at o
    · rename_i hf
      obtain ⟨q, h1, h2⟩ := fair_ex hf
      refine ⟨py a, py b, datOf_dp z rx e1 h1, datOf_dp z ry e2 h2, py_plain _ _ _ h1, py_plain _ _ _ h2, py_depth _ _ _ h1, ?_⟩
      rw [py_eqv q a 12 12 b h1 h2]
      exact fin_bl z o
    · exact no_out o
  · exact no_out o
theorem snd_ne (hu : X.A.units + 64 < cLine) : Snd2 N X T (compareOp .NotEq) (fun x y s => TT.opSem .ne [x, y] s) :=
  ⟨_, op_neP hu, fun fz L H s x y wx wy Q er z rx ry o => eqS_snd z rx ry o⟩
/-- in, not in a list or a tuple of data -/
def rInP (K : PySem.W.Frag) (neg : Bool) : R2 := fun x y H Q => ∃ d a xs es, Dp K H x d ∧ y = .ref a ∧ (SqL K H a xs ∨ SqT K H a xs) ∧ DpAll K H xs es ∧ d.plain = true ∧ PyData.plainAll es = true ∧ d.depth ≤ 12 ∧
  Q (.bl (if neg then !es.any (fun y => PyData.eqv y d) else es.any (fun y => PyData.eqv y d))) H
theorem op_inP (hu : X.A.units + 64 < cLine) : OpR X (compareOp .In) (rInP X.K false) := by
  intro pins s σ H x y v u Q I rx ry h
  obtain ⟨d, a, xs, es, hd, rfl, hs, he, pd, pe, dd, q⟩ := h
  obtain ⟨as, r1⟩ := Dp.reads I d x v hd rx
  rcases hs with hs | hs
  · obtain ⟨bs, r2⟩ := Dp.reads I (.list es) _ u (.lst hs he) ry
    exact SeqAt.in_list_data r2 r1 pe pd (by omega) ⟨.bl _, H, I, rfl, q⟩
  · obtain ⟨bs, r2⟩ := Dp.reads I (.tuple es) _ u (.tup hs he) ry
    exact SeqAt.in_tuple_data r2 r1 pe pd (by omega) ⟨.bl _, H, I, rfl, q⟩
theorem op_ninP (hu : X.A.units + 64 < cLine) : OpR X (compareOp .NotIn) (rInP X.K true) := by
  intro pins s σ H x y v u Q I rx ry h
  obtain ⟨d, a, xs, es, hd, rfl, hs, he, pd, pe, dd, q⟩ := h
  obtain ⟨as, r1⟩ := Dp.reads I d x v hd rx
  rcases hs with hs | hs
  · obtain ⟨bs, r2⟩ := Dp.reads I (.list es) _ u (.lst hs he) ry
    exact SeqAt.notIn_list_data r2 r1 pe pd (by omega) ⟨.bl _, H, I, rfl, q⟩
  · obtain ⟨bs, r2⟩ := Dp.reads I (.tuple es) _ u (.tup hs he) ry
    exact SeqAt.notIn_tuple_data r2 r1 pe pd (by omega) ⟨.bl _, H, I, rfl, q⟩
theorem pyIn_ex {a : D} {ds : List D} {b : Bool} (h : TT.pyIn a ds = some b) : b = decide (a ∈ ds) ∧ ∃ q, TT.D.pl q 12 a = true ∧ TT.Ds.pl q 12 ds = true := by
  unfold TT.pyIn at h
  split at h
  · rename_i hc
    simp only [Bool.or_eq_true, Bool.and_eq_true] at hc
    cases h
    refine ⟨rfl, ?_⟩
    rcases hc with hc | hc
    · exact ⟨_, hc⟩
    · exact ⟨_, hc⟩
  · cases h
theorem inS_snd {neg : Bool} {fz : Bool} {L : Loc} {H : Hp} {s : Sto} {x y : L2.V} {wx wy : W} {Q : VK} {er : Nat → Hp → Prop} (z : RelS N X.K T L H s) (rx : RepW N X.K L H x wx) (ry : RepW N X.K L H y wy)
    (o : Out N X.K T L H (okW N X.K Q) er ((TT.inSq neg wx wy s).bind (TT.fin fz))) : rInP X.K neg x y H Q := by
  unfold TT.inSq at o
  split at o
  · rename_i a ds e2
    cases e : TT.pyIn a ds with
    | none => rw [e] at o; exact no_out o
    | some r =>
      rw [e] at o
      obtain ⟨rfl, q, h1, h2⟩ := pyIn_ex e
      obtain ⟨b, xs, rfl, hs, rs⟩ := seqOf_rep z ry e2
      refine ⟨py a, b, xs, pys ds, RepD.dp q 12 _ _ h1 rx, rfl, hs, RepDs.dp q 12 _ _ h2 rs, py_plain _ _ _ h1, pys_plain _ _ _ h2, py_depth _ _ _ h1, ?_⟩
      rw [pys_any q 12 12 a h1 ds h2]
      exact fin_bl z o
  · exact no_out o
theorem snd_inS (hu : X.A.units + 64 < cLine) : Snd2 N X T (compareOp .In) (fun x y s => TT.opSem .inS [x, y] s) :=
  ⟨_, op_inP hu, fun fz L H s x y wx wy Q er z rx ry o => inS_snd z rx ry o⟩
theorem snd_ninS (hu : X.A.units + 64 < cLine) : Snd2 N X T (compareOp .NotIn) (fun x y s => TT.opSem .ninS [x, y] s) :=
  ⟨_, op_ninP hu, fun fz L H s x y wx wy Q er z rx ry o => inS_snd z rx ry o⟩
end
end TS

set_option maxRecDepth 100000
/-! Dicts whose keys are tuples, tuples within. -/
namespace TS
open PySem PySem.Spec PyProof.Rows L2
mutual
theorem nk_hash (w w' : World) : ∀ (n : Nat) (d : D), TT.D.kn n d = true → (nk d).hash w = (nk d).hash w'
  | n, .non, _ => by simp [nk, NestedKey.hash]
  | n, .int _, _ => by simp [nk, NestedKey.hash]
  | n + 1, .tup ds, h => by
    simp only [TT.D.kn] at h
    simp only [nk, NestedKey.hash, nks_hash w w' n ds h]
  | 0, .tup _, h => by simp [TT.D.kn] at h
  | n, .bl _, h => by simp [TT.D.kn] at h
  | n, .str _, h => by simp [TT.D.kn] at h
  | n, .lst _, h => by simp [TT.D.kn] at h
  | n, .rol _, h => by simp [TT.D.kn] at h
  | n, .dct _ _ _, h => by simp [TT.D.kn] at h
  | n, .obj _ _ _, h => by simp [TT.D.kn] at h
theorem nks_hash (w w' : World) : ∀ (n : Nat) (ds : List D), TT.Ds.kn n ds = true → NestedKey.hashes w (nks ds) = NestedKey.hashes w' (nks ds)
  | n, [], _ => by simp [nks, NestedKey.hashes]
  | n, d :: ds, h => by
    simp only [TT.Ds.kn, Bool.and_eq_true] at h
    simp only [nks, NestedKey.hashes, nk_hash w w' n d h.1, nks_hash w w' n ds h.2]
end
mutual
theorem nk_inj : ∀ (n m : Nat) (d e : D), TT.D.kn n d = true → TT.D.kn m e = true → nk d = nk e → d = e
  | n, m, .non, e, _, he, q => by cases e <;> simp_all [nk, TT.D.kn]
  | n, m, .int _, e, _, he, q => by cases e <;> simp_all [nk, TT.D.kn]
  | n + 1, m, .tup ds, e, h, he, q => by
    cases e <;> first | (simp [TT.D.kn] at he; done) | (simp [nk] at q; done) | skip
    rename_i es
    cases m with
    | zero => simp [TT.D.kn] at he
    | succ m =>
      simp only [TT.D.kn] at h he
      simp only [nk, NestedKey.tup.injEq] at q
      rw [nks_inj n m ds es h he q]
  | 0, m, .tup _, e, h, _, _ => by simp [TT.D.kn] at h
  | n, m, .bl _, e, h, _, _ => by simp [TT.D.kn] at h
  | n, m, .str _, e, h, _, _ => by simp [TT.D.kn] at h
  | n, m, .lst _, e, h, _, _ => by simp [TT.D.kn] at h
  | n, m, .rol _, e, h, _, _ => by simp [TT.D.kn] at h
  | n, m, .dct _ _ _, e, h, _, _ => by simp [TT.D.kn] at h
  | n, m, .obj _ _ _, e, h, _, _ => by simp [TT.D.kn] at h
theorem nks_inj : ∀ (n m : Nat) (d e : List D), TT.Ds.kn n d = true → TT.Ds.kn m e = true → nks d = nks e → d = e
  | n, m, [], e, _, _, q => by cases e <;> simp_all [nks]
  | n, m, d :: ds, e, h, he, q => by
    cases e with
    | nil => simp [nks] at q
    | cons e es =>
      simp only [TT.Ds.kn, Bool.and_eq_true] at h he
      simp only [nks, List.cons.injEq] at q
      rw [nk_inj n m d e h.1 he.1 q.1, nks_inj n m ds es h.2 he.2 q.2]
end
mutual
theorem nk_depth : ∀ (n : Nat) (d : D), TT.D.kn n d = true → (nk d).depth ≤ n
  | n, .non, _ => by simp [nk, NestedKey.depth]
  | n, .int _, _ => by simp [nk, NestedKey.depth]
  | n + 1, .tup ds, h => by
    simp only [TT.D.kn] at h
    simp only [nk, NestedKey.depth]
    exact Nat.succ_le_succ (nks_depth n ds h)
  | 0, .tup _, h => by simp [TT.D.kn] at h
  | n, .bl _, h => by simp [TT.D.kn] at h
  | n, .str _, h => by simp [TT.D.kn] at h
  | n, .lst _, h => by simp [TT.D.kn] at h
  | n, .rol _, h => by simp [TT.D.kn] at h
  | n, .dct _ _ _, h => by simp [TT.D.kn] at h
  | n, .obj _ _ _, h => by simp [TT.D.kn] at h
theorem nks_depth : ∀ (n : Nat) (ds : List D), TT.Ds.kn n ds = true → NestedKey.depthAll (nks ds) ≤ n
  | n, [], _ => by simp [nks, NestedKey.depthAll]
  | n, d :: ds, h => by
    simp only [TT.Ds.kn, Bool.and_eq_true] at h
    simp only [nks, NestedKey.depthAll]
    have := nk_depth n d h.1
    have := nks_depth n ds h.2
    omega
end
mutual
theorem nk_reads {h : Heap} : ∀ (n : Nat) (d : D) (v : Value) (as : List Addr), TT.D.kn n d = true → Reads h v (py d) as → NestedIs h (nk d) v
  | n, .non, v, as, _, r => by simp only [py] at r; cases r; exact .none
  | n, .int i, v, as, _, r => by simp only [py] at r; cases r; exact .int _ _
  | n + 1, .tup ds, v, as, k, r => by
    simp only [TT.D.kn] at k
    simp only [py] at r
    cases r with
    | tuple h1 h2 h3 h4 => exact .tup h1 h2 h3 (nks_reads n ds _ _ k h4)
  | 0, .tup _, _, _, h, _ => by simp [TT.D.kn] at h
  | n, .bl _, _, _, h, _ => by simp [TT.D.kn] at h
  | n, .str _, _, _, h, _ => by simp [TT.D.kn] at h
  | n, .lst _, _, _, h, _ => by simp [TT.D.kn] at h
  | n, .rol _, _, _, h, _ => by simp [TT.D.kn] at h
  | n, .dct _ _ _, _, _, h, _ => by simp [TT.D.kn] at h
  | n, .obj _ _ _, _, _, h, _ => by simp [TT.D.kn] at h
theorem nks_reads {h : Heap} : ∀ (n : Nat) (ds : List D) (vs : List Value) (as : List Addr), TT.Ds.kn n ds = true → ReadsAll h vs (pys ds) as → NestedAll h (nks ds) vs
  | n, [], _, _, _, r => by simp only [pys] at r; cases r; exact .nil
  | n, d :: ds, _, _, k, r => by
    simp only [TT.Ds.kn, Bool.and_eq_true] at k
    simp only [pys] at r
    cases r with
    | cons r1 r2 => exact .cons (nk_reads n d _ _ k.1 r1) (nks_reads n ds _ _ k.2 r2)
end
theorem keyN_kn {d : D} (h : TT.keyN d = true) : TT.D.kn 8 d = true := by
  cases d <;> first | (simp [TT.keyN] at h; done) | skip
  simpa [TT.keyN, TT.D.kn] using h
section
variable {X : Cx} {pins : List (Addr × Obj)} {σ : L2.St} {H : Hp} {s : Shared} {a b : Addr} {kvs : List (D × Addr × L2.V)} {k : D}
/-- the tuple at b is the key k -/
theorem key_is (I : Inv X pins σ H s) (hk : TT.keyN k = true) (h : Dp X.K H (.ref b) (py k)) : (nestedKind X.prog X.w).is s.heap (nk k) b := by
  obtain ⟨as, r⟩ := Dp.reads I _ _ (.ref b) h rfl
  have q := keyN_kn hk
  exact ⟨nk_reads 8 k _ _ q r, nk_depth 8 k q⟩
theorem KN.nd {xs : List (NestedKey × Addr × Value)} (r : KN kvs xs) (hk : ∀ p ∈ kvs, TT.keyN p.1 = true) (hn : (kvs.map (·.1)).Nodup) : (xs.map (·.1)).Nodup := by
  have e : xs.map (·.1) = (kvs.map (·.1)).map nk := by
    clear hn hk
    induction r with
    | nil => rfl
    | cons h t ih => simp only [List.map_cons, ih, h.1]
  rw [e]
  clear e r
  induction kvs with
  | nil => simp
  | cons p r ih =>
    simp only [List.map_cons, List.nodup_cons] at hn ⊢
    refine ⟨fun q => ?_, ih (fun p hp => hk p (by simp [hp])) hn.2⟩
    simp only [List.map_map, List.mem_map, Function.comp_apply] at q
    obtain ⟨p', hp', e⟩ := q
    have := nk_inj 8 8 _ _ (keyN_kn (hk p' (by simp [hp']))) (keyN_kn (hk p (by simp))) e
    exact hn.1 (List.mem_map.mpr ⟨p', hp', this⟩)
/-- what is known of such a dict -/
theorem dn_of {w : World} (I : Inv X pins σ H s) (e : H a = some (DN w a kvs)) (k : DnOk a kvs) (hd : ∀ p ∈ kvs, Dp X.K H (.ref p.2.1) (py p.1)) : ∃ xs, KN kvs xs ∧ s.heap.DictOfH (nestedKind X.prog X.w) a xs := by
  obtain ⟨⟨xs, r, o, es, ep, h1, h2, h3, h4⟩, -, -⟩ := (show ObjOk X.prog X.w H s.heap a (.ext (dnP w a kvs)) from I.hok a _ e)
  refine ⟨xs, r, o, es, ep, h1, h2, h3, ?_, ?_, r.nd k.key k.nd⟩
  · rw [h4]
    have kk := k.key
    clear h4 h3 hd k e
    induction r with
    | nil => rfl
    | @cons p q ps qs h t ih =>
      simp only [List.map_cons]
      rw [ih fun p hp => kk p (by simp [hp])]
      congr 1
      show (⟨q.1.hash w, _, _⟩ : DictEntry) = ⟨q.1.hash X.w, _, _⟩
      rw [h.1, nk_hash w X.w 8 p.1 (keyN_kn (kk p (by simp)))]
  · have kk := k.key
    clear h4 h3 k e
    induction r with
    | nil => intro x hx; cases hx
    | @cons p q ps qs h t ih =>
      intro x hx
      rcases List.mem_cons.mp hx with rfl | hx
      · rw [h.1, h.2.1]
        exact key_is I (kk p (by simp)) (hd p (by simp))
      · exact ih (fun p hp => hd p (by simp [hp])) (fun p hp => kk p (by simp [hp])) x hx
def dnAt (kvs : List (D × Addr × L2.V)) (k : D) : Option L2.V := (kvs.find? fun p => decide (p.1 = k)).map (·.2.2)
theorem dnAt_rel {xs : List (NestedKey × Addr × Value)} (r : KN kvs xs) (kk : ∀ p ∈ kvs, TT.keyN p.1 = true) (hk : TT.keyN k = true) : RelO (dnAt kvs k) ((atKey xs (nk k)).map (·.2)) := by
  induction r with
  | nil => exact True.intro
  | @cons p q ps qs h t ih =>
    unfold dnAt atKey
    simp only [List.find?_cons]
    by_cases e : p.1 = k
    · have e' : q.1 = nk k := by rw [h.1, e]
      simp only [decide_eq_true e, decide_eq_true e', Option.map_some]
      exact h.2.2
    · have e' : ¬ q.1 = nk k := fun z => e (nk_inj 8 8 _ _ (keyN_kn (kk p (by simp))) (keyN_kn hk) (by rw [← h.1, z]))
      simp only [decide_eq_false e, decide_eq_false e']
      exact ih fun p hp => kk p (by simp [hp])
/-- the empty dict, too -/
theorem dk_empty (I : Inv X pins σ H s) (e : Rd H a (.dK [])) : (a == sysModules) = false ∧ s.heap.DictOfH (nestedKind X.prog X.w) a [] := by
  obtain ⟨z, hd, vs, rel, o, es, ep, h1, h2, h3, h4, h5, h6⟩ := dk_rd I.hok e
  cases rel
  refine ⟨hd, o, es, ep, h1, h2, h3, ?_, (fun x hx => nomatch hx), List.nodup_nil⟩
  generalize es.toList = l at h5
  cases h5
  rfl
/-- what the dict at a holds at the key y -/
def DGetN (K : PySem.W.Frag) (H : Hp) (a : Addr) (y : L2.V) (r : Option L2.V) : Prop :=
  ∃ b k, y = .ref b ∧ TT.keyN k = true ∧ Dp K H (.ref b) (py k) ∧ ((∃ w kvs, H a = some (DN w a kvs) ∧ DnOk a kvs ∧ (∀ p ∈ kvs, Dp K H (.ref p.2.1) (py p.1)) ∧ r = dnAt kvs k) ∨ (Rd H a (.dK []) ∧ r = none))
theorem DGetN.look {y : L2.V} {u : Value} {r : Option L2.V} (I : Inv X pins σ H s) (g : DGetN X.K H a y r) (ry : RelV y u) :
    ∃ b k xs, u = .ref b ∧ (nestedKind X.prog X.w).is s.heap k b ∧ (a == sysModules) = false ∧ s.heap.DictOfH (nestedKind X.prog X.w) a xs ∧ RelO r ((atKey xs k).map (·.2)) := by
  obtain ⟨b, k, rfl, hk, hd, g⟩ := g
  cases (show u = Value.ref b from ry)
  rcases g with ⟨w, kvs, e, ok, ds, rfl⟩ | ⟨e, rfl⟩
  · obtain ⟨xs, r, d⟩ := dn_of I e ok ds
    exact ⟨b, nk k, xs, rfl, key_is I hk hd, ok.nsys, d, dnAt_rel r ok.key hk⟩
  · obtain ⟨h1, h2⟩ := dk_empty I e
    exact ⟨b, nk k, [], rfl, key_is I hk hd, h1, h2, True.intro⟩
theorem nroom {A : Around} (hu : A.units + 64 < cLine) : (nestedKind X.prog X.w).room A.in1 := by show A.units + 1 + 8 < cLine; omega
end
section
variable {X : Cx}
def rInN (K : PySem.W.Frag) (neg : Bool) : R2 := fun y x H Q => ∃ a o, x = .ref a ∧ DGetN K H a y o ∧ Q (.bl (if neg then !o.isSome else o.isSome)) H
theorem op_inN (hu : X.A.units + 64 < cLine) : OpR X (compareOp .In) (rInN X.K false) := by
  intro pins s σ H y x u v Q I ry rx h
  obtain ⟨a, o, rfl, g, q⟩ := h
  cases rx
  obtain ⟨b, k, xs, rfl, hk, hs, d, ro⟩ := g.look I ry
  refine wpAny_in_heap (nroom hu) hk hs d ?_
  have e := ro.isSome_eq
  rw [Option.isSome_map] at e
  rw [← e]
  exact ⟨.bl _, H, I.tok _, rfl, q⟩
theorem op_ninN (hu : X.A.units + 64 < cLine) : OpR X (compareOp .NotIn) (rInN X.K true) := by
  intro pins s σ H y x u v Q I ry rx h
  obtain ⟨a, o, rfl, g, q⟩ := h
  cases rx
  obtain ⟨b, k, xs, rfl, hk, hs, d, ro⟩ := g.look I ry
  refine wpAny_notIn_heap (nroom hu) hk hs d ?_
  have e := ro.isSome_eq
  rw [Option.isSome_map] at e
  rw [← e]
  exact ⟨.bl _, H, I.tok _, rfl, q⟩
def rIxN (K : PySem.W.Frag) : R2 := fun x y H Q => ∃ a v, x = .ref a ∧ DGetN K H a y (some v) ∧ Q v H
def rIxDD : R2 := fun x y H Q => ∃ a v, x = .ref a ∧ DGet H a y (some v) ∧ Q v H
theorem ix_dd (hu : X.A.units + 64 < cLine) : IxR X rIxDD := by
  intro value slice pins s σ H x y v u Q I rx ry h hs
  obtain ⟨a, r, rfl, g, q⟩ := h
  obtain rfl : v = Value.ref a := rx
  exact tail_any (dict_typeIs I g) slot_dict_getitem.lookup (d_getItem (by omega) I g ry fun w' s' I' rw' => ⟨r, H, I', rw', q⟩) hs
theorem ix_dn (hu : X.A.units + 64 < cLine) : IxR X (rIxN X.K) := by
  intro value slice pins s σ H x y v u Q I rx ry h hs
  obtain ⟨a, r, rfl, g, q⟩ := h
  obtain rfl : v = Value.ref a := rx
  obtain ⟨b, k, xs, rfl, hk, hsy, d, ro⟩ := g.look I ry
  obtain ⟨w', hw, rw'⟩ := RelO.some_of ro
  obtain ⟨p, hp, hp2⟩ := Option.map_eq_some_iff.mp hw
  refine tail_any d.typeIs slot_dict_getitem.lookup (wpAny_getItem_heap (nroom hu) hk d hp ?_) hs
  rw [hp2]
  exact ⟨r, H, I.tok _, rw', q⟩
/-- .. behind a[k] = v -/
def dnPut (kvs : List (D × Addr × L2.V)) (k : D) (b : Addr) (v : L2.V) : List (D × Addr × L2.V) :=
  if (dnAt kvs k).isSome = true then kvs.map (fun p => if p.1 = k then (p.1, p.2.1, v) else p) else kvs ++ [(k, b, v)]
theorem KN.put {kvs : List (D × Addr × L2.V)} {xs : List (NestedKey × Addr × Value)} {k : D} {b : Addr} {v : L2.V} {u : Value} (r : KN kvs xs) (kk : ∀ p ∈ kvs, TT.keyN p.1 = true) (hk : TT.keyN k = true) (rv : RelV v u) : KN (dnPut kvs k b v) (storedH xs (nk k) b u) := by
  have e := (dnAt_rel r kk hk).isSome_eq
  rw [Option.isSome_map] at e
  unfold dnPut storedH
  rw [e]
  by_cases q : (atKey xs (nk k)).isSome = true
  · rw [if_pos q, if_pos q]
    clear e q
    induction r with
    | nil => exact .nil
    | @cons p q ps qs h t ih =>
      simp only [List.map_cons]
      refine .cons ?_ (ih fun p hp => kk p (by simp [hp]))
      unfold putAt
      by_cases e : p.1 = k
      · rw [if_pos e, if_pos (by rw [h.1, e])]; exact ⟨h.1, h.2.1, rv⟩
      · rw [if_neg e, if_neg (fun z => e (nk_inj 8 8 _ _ (keyN_kn (kk p (by simp))) (keyN_kn hk) (by rw [← h.1, z])))]; exact h
  · rw [if_neg q, if_neg q]
    exact Paired.snoc r ⟨rfl, rfl, rv⟩
/-- the heap behind a[y] = v -/
def DPutN (K : PySem.W.Frag) (w : World) (H : Hp) (a : Addr) (y v : L2.V) (H' : Hp) : Prop :=
  ∃ b k, y = .ref b ∧ TT.keyN k = true ∧ Dp K H (.ref b) (py k) ∧ ((∃ w' kvs, H a = some (DN w' a kvs) ∧ DnOk a kvs ∧ kvs.length < sizeLine ∧ (∀ p ∈ kvs, Dp K H (.ref p.2.1) (py p.1)) ∧ H' = upd H a (DN w a (dnPut kvs k b v))) ∨ (H a = some (.dK []) ∧ H' = upd H a (DN w a [(k, b, v)])))
theorem DPutN.nsys {pins : List (Addr × Obj)} {σ : L2.St} {H H' : Hp} {s : Shared} {a : Addr} {y v : L2.V} {w : World} (g : DPutN X.K w H a y v H') (I : Inv X pins σ H s) : (a == sysModules) = false := by
  obtain ⟨b, k, _, _, _, ⟨_, _, _, ok, _⟩ | ⟨e, _⟩⟩ := g
  · exact ok.nsys
  · exact (dk_of I.hok e).2.1
theorem dn_write {pins : List (Addr × Obj)} {σ : L2.St} {H : Hp} {s : Shared} {h' : Heap} {t' : Nat} {a : Addr} {kvs : List (D × Addr × L2.V)} {xs : List (NestedKey × Addr × Value)} (I : Inv X pins σ H s) (mu : Mut (H a)) (hs : Heap.SameBut a s.heap h') (r : KN kvs xs) (d : h'.DictOfH (nestedKind X.prog X.w) a xs) :
    Inv X pins σ (upd H a (DN X.w a kvs)) { s with heap := h', toks := t' } := by
  obtain ⟨o, es, ep, h1, h2, h3, h4, -, -⟩ := d
  have key : dnP X.w a kvs h' := ⟨xs, r, o, es, ep, h1, h2, h3, h4⟩
  exact d_write I mu hs ⟨o, h1⟩ (show ObjOk X.prog X.w _ h' a (.ext (dnP X.w a kvs)) from ⟨key, ⟨o, h1⟩, fun g1 g2 ⟨xs, r, o, es, ep, e1, e2, e3, e4⟩ hg => ⟨xs, r, o, es, ep, hg o e1, e2, e3, e4⟩⟩)
theorem dn_setItem {pins : List (Addr × Obj)} {σ : L2.St} {H H' : Hp} {s : Shared} {a : Addr} {y v : L2.V} {u r : Value} {A : Around} {E : Value → Shared → Prop} {Q : Unit → Shared → Prop} (hu : A.units + 64 < cLine) (I : Inv X pins σ H s) (g : DPutN X.K X.w H a y v H') (ry : RelV y u) (rv : RelV v r) (h : ∀ s', Inv X pins σ H' s' → Q () s') :
    wpAny (model X.prog X.w) A (setItem (.ref a) u r) Q E s := by
  obtain ⟨b, k, rfl, hk, hd, g⟩ := g
  cases (show u = Value.ref b from ry)
  rcases g with ⟨w', kvs, e, ok, hl, ds, rfl⟩ | ⟨e, rfl⟩
  · obtain ⟨xs, r, d⟩ := dn_of I e ok ds
    have hz : xs.length ≤ sizeLine := by rw [← Paired.length r]; exact ok.len
    refine wpAny_setItem_heap (hsz := hz) (nroom hu) (key_is I hk hd) d fun h' dd' hs => h _ ?_
    exact dn_write I (by rw [e]; exact True.intro) hs (r.put ok.key hk rv) dd'
  · obtain ⟨h1, h2⟩ := dk_empty I (.inl e)
    refine wpAny_setItem_heap (hsz := by rw [sizeLine_eq]; simp) (nroom hu) (key_is I hk hd) h2 fun h' dd' hs => h _ ?_
    exact dn_write I (by rw [e]; exact True.intro) hs (xs := [(nk k, b, r)]) (.cons ⟨rfl, rfl, rv⟩ .nil) dd'
def sPutU (K : PySem.W.Frag) (w : World) (td ty tv : TE) : TS := fun D σ H => tv σ H fun v H1 => td σ H1 fun x H2 => ty σ H2 fun y H3 => ∃ a H4, x = .ref a ∧ ((DPut H3 a y v H4 ∧ D.nx σ H4) ∨ (DPutN K w H3 a y v H4 ∧ ((a == sysModules) = false → D.nx σ H4)))
theorem ps_putU {o i value : Expr} {td ty tv : TE} {pos pos' : Pos} (hu : X.A.units + 64 < cLine) (ho : PE X o td) (hi : PE X i ty) (hv : PE X value tv) (hs : swapsWith value (some (.Subscript o i pos')) pos.line X.env = pure false) :
    PS X (.Assign [.Subscript o i pos'] value pos) (sPutU X.K X.w td ty tv) := by
  refine ⟨fun pins s σ H D I h => wpAny_Assign_Subscript (thn (hv.run pins s σ H _ I h) fun r s1 ⟨v, H1, I1, rv, q1⟩ => ?_) hs⟩
  refine thn (ho.run pins s1 σ H1 _ I1 q1) fun u s2 ⟨x, H2, I2, rx, q2⟩ => thn (hi.run pins s2 σ H2 _ I2 q2) fun iv s3 ⟨y, H3, I3, ry, a, H4, ex, g⟩ => ?_
  subst ex
  obtain rfl : u = Value.ref a := rx
  rcases g with ⟨g, q3⟩ | ⟨g, q3⟩
  · exact d_setItem (by omega) I3 g ry rv fun s4 I4 => ⟨σ, H4, I4, q3⟩
  · exact dn_setItem hu I3 g ry rv fun s4 I4 => ⟨σ, H4, I4, q3 (g.nsys I3)⟩
/-- len of a dict of any kind -/
def rLenU (K : PySem.W.Frag) : List L2.V → Hp → VK → Prop := fun xs H Q => ∃ a n, xs = [V.ref a] ∧ ((∃ kvs, Rd H a (.dK kvs) ∧ n = kvs.length) ∨ (∃ kvs, Rd H a (.dT kvs) ∧ n = kvs.length) ∨ ∃ w kvs, H a = some (DN w a kvs) ∧ DnOk a kvs ∧ (∀ p ∈ kvs, Dp K H (.ref p.2.1) (py p.1)) ∧ n = kvs.length) ∧ Q (.int n) H
theorem lenH {pins : List (Addr × Obj)} {σ : L2.St} {H : Hp} {s : Shared} {κ : Type} [DecidableEq κ] {knd : HeapKind X.prog X.w κ} {a : Addr} {xs : List (κ × Addr × Value)} {Q : VK} (I : Inv X pins σ H s) (hs : (a == sysModules) = false) (d : s.heap.DictOfH knd a xs) (hl : xs.length ≤ sizeLine) (q : Q (.int xs.length) H) :
    wpAny (model X.prog X.w) X.A (call (.builtin "len") [.ref a]) (EP X pins σ Q) X.xe s := by
  have hm : s.heap.DictKeyed knd a (xs.map fun x => (x.1, x.2.2)) := ⟨xs, d, rfl⟩
  refine PyProof.Rows.call_len_slot (n := xs.length) hm.typeIs F.slot_dict_len (fun Q' hq => len_keyed hs hm ?_) (by omega) (by rw [sizeLine_eq] at hl; omega) ?_
  · simp only [List.length_map]
    exact hq
  · exact ⟨.int xs.length, H, I.tok _, ⟨_, rfl⟩, q⟩
theorem cr_lenU : CallR X (.builtin "len") (rLenU X.K) := by
  intro pins s σ H xs us Q I r h
  obtain ⟨a, n, rfl, h, q⟩ := h
  obtain ⟨u, rfl, ru⟩ := vals1 r
  cases ru
  rcases h with ⟨kvs, e, rfl⟩ | ⟨kvs, e, rfl⟩ | ⟨w, kvs, e, ok, ds, rfl⟩
  · exact d_len I e fun t s' I' => ⟨.int kvs.length, H, I', ⟨t, rfl⟩, q⟩
  · obtain ⟨z, hd, xs, rel, dd⟩ := dt_rd I.hok e
    have := Paired.length rel
    exact lenH I hd dd (by omega) (by rw [← this]; exact q)
  · obtain ⟨xs, r, d⟩ := dn_of I e ok ds
    have := Paired.length r
    have := ok.len
    exact lenH I ok.nsys d (by omega) (by rw [← Paired.length r]; exact q)
end
end TS

set_option maxRecDepth 100000
/-! sorted, of tuples. -/
namespace TS
open PySem PySem.Spec PyProof.Rows L2 PySem.W
def leP (a b : L2.V × D) : Bool := dataLe false (fun b : L2.V × D => py b.2) a b
/-! ### an empty tuple first: the sort asks each item itself -/
/-- an empty tuple first, all of them tuples -/
def TupsE (ds : List PyData) : Prop := (∃ r, ds = .tuple [] :: r) ∧ ∀ d ∈ ds, ∃ xs, d = .tuple xs
section
variable {prog : Program} {w : World} {A : Around} {E : Value → Shared → Prop} {s : Shared}
theorem call_tupleLt {Q : Value → Shared → Prop} {l b : Addr} {items items2 : Array Value} {e r : Nat → Bool} (hl : s.heap.IsTuple l items) (hb : s.heap.IsTuple b items2)
    (he : ∀ j (h1 : j < items.size) (h2 : j < items2.size), PySem.SeqAt.EqAt A.in1 s items[j] items2[j] (e j)) (hr : ∀ j (h1 : j < items.size) (h2 : j < items2.size), e j = false → PySem.SeqAt.RcLt A.in1 s items[j] items2[j] (r j))
    (h : Q (.bool (PySem.SeqAt.firstLt e r (decide (items.size < items2.size)) (List.range (min items.size items2.size)))) s) : wpAny (model prog w) A (call (.builtin "tuple.__lt__") [.ref l, .ref b]) Q E s := by
  obtain ⟨⟨cls, dd, data, sl⟩, ho, hc, n, hd⟩ := id hl
  obtain ⟨⟨cls2, dd2, data2, sl2⟩, ho2, hc2, n2, hd2⟩ := id hb
  simp only at hc hd hc2 hd2
  subst hc hd hc2 hd2
  exact call_meets F.slot_tuple_lt ⟨_, ho, rfl⟩ F.entry_tuple_lt (F.args_tuple_lt_2 _ _) (PySem.SeqAt.tuple_ltAt l b items items2 n n2 dd dd2 sl sl2 e r) ⟨ho, ho2, he, hr, h⟩
theorem oneLt_tups {xs ys : List PyData} {a b : Value} {as bs : List Addr} {Q : Bool → Shared → Prop} (ra : Reads s.heap a (.tuple xs) as) (rb : Reads s.heap b (.tuple ys) bs) (h : alike (.tuple xs) (.tuple ys) = true)
    (hu : A.units + min (PyData.depth (.tuple xs)) (PyData.depth (.tuple ys)) < cLine) (hq : Q (dataLt (.tuple xs) (.tuple ys)) s) : wpAny (model prog w) A (oneLt' true a b) Q E s := by
  have hal : alikeAll xs ys = true := by simpa [alike] using h
  cases ra with
  | @tuple l o vs n _ as1 h1 h2 h3 h4 =>
    cases rb with
    | @tuple l' o' vs' n' _ bs1 k1 k2 k3 k4 =>
      have n1 : vs.size = xs.length := by simpa using PySem.SeqAt.ReadsAll.length _ _ _ h4
      have n2 : vs'.size = ys.length := by simpa using PySem.SeqAt.ReadsAll.length _ _ _ k4
      rw [dataLt_tuple, ← firstLt_toks xs ys hal, ← n1, ← n2] at hq
      rw [oneLt'_eq]
      simp only [if_true]
      refine wpAny_bind (wpAny_cRoomFor (PySem.SeqAt.room_here hu) ?_)
      refine wpAny_bind (wpAny_callSpecialIfBound?_slot (T := "tuple") ⟨_, h1, h2⟩ F.slot_tuple_lt (call_tupleLt (e := PySem.SeqAt.pairEq xs ys) (r := fun j => dataLt (xs.getD j .none) (ys.getD j .none)) ⟨_, h1, h2, _, h3⟩ ⟨_, k1, k2, _, k3⟩ (fun j j1 j2 => ?_) (fun j j1 j2 hj => ?_) ?_))
      · have := eqAt_alikeAll xs ys A.in1 s vs.toList vs'.toList _ _ h4 k4 hal (PySem.SeqAt.room_in hu) j (by simpa using j1) (by simpa using j2)
        simpa using this
      · have := rcLt_alikeAll xs ys A.in1 s vs.toList vs'.toList _ _ h4 k4 hal (PySem.SeqAt.room_in hu) j (by simpa using j1) (by simpa using j2) hj
        simpa using this
      · exact wpAny_truthy_bool hq
theorem first_tups : ∀ {vs : List Value} {ds : List PyData} {Q : List (Option Value) → Shared → Prop}, EachIs (fun v d => ∃ as, Reads s.heap v d as) vs ds → (∀ d ∈ ds, ∃ xs, d = .tuple xs) → (∀ os, Q os s) → wpAny (model prog w) A (vs.mapM firstOfTuple') Q E s
  | _, _, Q, .nil, _, h => by rw [List.mapM_nil]; exact wpAny_pure (h _)
  | _, _, Q, .cons (a := v) (as := vs) (b := d) ⟨as, r⟩ t, ht, h => by
    obtain ⟨xs, rfl⟩ := ht d (List.mem_cons_self ..)
    rw [List.mapM_cons]
    refine wpAny_bind ?_
    rw [kas_first_eq]
    cases r with
    | @tuple a o vs' n _ _ ho hc hd hr =>
      refine wpAny_bind (Looks.here (show Looks _ s.heap (typeOf (.ref a)) o.cls from (Looks.ld ho).andThen .now) ?_)
      rw [hc, if_neg (by first | decide | simp)]
      refine wpAny_bind (listItems_at ho hd (wpAny_pure ?_))
      exact wpAny_bind (first_tups t (fun d hd => ht d (List.mem_cons_of_mem _ hd)) fun os => wpAny_pure (h _))
theorem kindE {vs : List Value} {ds : List PyData} {Q : SortKind → Shared → Prop} (e : EachIs (fun v d => ∃ as, Reads s.heap v d as) vs ds) (ht : TupsE ds) (h2 : 2 ≤ vs.length) (h : Q oneType' s) : wpAny (model prog w) A (keyKind' vs.toArray) Q E s := by
  obtain ⟨⟨r, rfl⟩, hta⟩ := ht
  cases e with
  | @cons v _ vs' _ rd t =>
    obtain ⟨as, rd⟩ := rd
    have hT : ∀ v' ∈ v :: vs', Looks (model prog w) s.heap (typeOf v') (Value.type "tuple") := by
      intro v' hv'
      obtain ⟨d, hd, as', rd'⟩ := (EachIs.cons ⟨as, rd⟩ t : EachIs (fun v d => ∃ as, Reads s.heap v d as) (v :: vs') (.tuple [] :: r)).left v' hv'
      obtain ⟨xs, rfl⟩ := hta d hd
      exact looks_reads rd'
    rw [keyKind'_eq, List.mapM_toArray, map_eq_pure_bind, List.mapM_cons]
    have hq : ∀ os : List (Option Value), wpAny (model prog w) A (do
        if (none :: os).toArray.all (·.isSome) then
          rule "list.sort.keys-are-tuples"
          return tuples' ((← oneTypeOnly' ((none :: os).toArray.filterMap id)).any (· != .type "tuple"))
        if ((none :: os).toArray[0]?.bind id).isSome then return general'
        return if (← oneTypeOnly' (v :: vs').toArray).isSome then oneType' else general') Q E s := by
      intro os
      rw [if_neg (by simp), if_neg (by simp)]
      rw [oneTypeOnly'_eq, List.mapM_toArray, map_eq_pure_bind]
      refine wpAny_bind (wpAny_bind (wpAny_bind (kas_mapM (r := Value.type "tuple") _ (fun v' hv' Q' hq => (hT v' hv').here hq) (wpAny_pure ?_))))
      have hall : ((List.map (fun _ => Value.type "tuple") (v :: vs')).toArray.all fun x => x == Value.type "tuple") = true := by
        simp only [List.all_toArray, List.all_map, List.all_eq_true]
        intro _ _
        exact beq_self_eq_true _
      have h0 : (List.map (fun _ => Value.type "tuple") (v :: vs')).toArray[0]? = some (Value.type "tuple") := by simp
      rw [h0]
      simp only [hall, if_true]
      exact wpAny_pure (wpAny_pure h)
    refine wpAny_bind (wpAny_bind (wpAny_bind ?_))
    rw [kas_first_eq]
    cases rd with
    | @tuple a o xs n _ _ ho hc hd hr =>
      refine wpAny_bind (Looks.here (show Looks _ s.heap (typeOf (.ref a)) o.cls from (Looks.ld ho).andThen .now) ?_)
      rw [hc, if_neg (by first | decide | simp)]
      refine wpAny_bind (listItems_at ho hd (wpAny_pure ?_))
      have hx : xs[0]? = none := by
        have := PySem.SeqAt.ReadsAll.length _ _ _ hr
        simp at this
        rw [this]; rfl
      rw [hx]
      exact wpAny_bind (first_tups t (fun d hd => hta d (List.mem_cons_of_mem _ hd)) fun os => wpAny_pure (wpAny_pure (hq os)))
theorem sortsE {vs : List Value} {ds : List PyData} (e : EachIs (fun v d => ∃ as, Reads s.heap v d as) vs ds) (hal : AllAlike ds) (ht : TupsE ds) (hu : ∀ d, d ∈ ds → A.units + d.depth < cLine) : SortsAt prog w A s (dataKind s.heap ds) vs := by
  refine ⟨fun v hv => ?_, oneType', ?_, fun h2 E Q hq => kindE e ht h2 hq⟩
  · obtain ⟨d, hd, as, r⟩ := e.left v hv
    exact ⟨_, dataKind_some hal hd r⟩
  · intro E x y a b Q ha hb hq
    obtain ⟨d, as, hd, ra, rfl⟩ := dataKind_inv ha
    obtain ⟨d', as', hd', rb, rfl⟩ := dataKind_inv hb
    obtain ⟨xs, rfl⟩ := ht.2 d hd
    obtain ⟨ys, rfl⟩ := ht.2 d' hd'
    rw [keyLt'_oneType]
    exact oneLt_tups ra rb (hal _ hd _ hd') (Nat.lt_of_le_of_lt (Nat.add_le_add_left (Nat.min_le_left _ _) _) (hu _ hd)) hq
theorem sorted_dataE {β : Type} {vs : List Value} {bs : List β} {enc : β → PyData} {R : Value → β → Prop} {l : Addr} {Q : Value → Shared → Prop} (hl : s.heap.IsList l vs.toArray) (e : EachIs R vs bs) (er : EachIs (fun v b => ∃ as, Reads s.heap v (enc b) as) vs bs) (hal : AllAlike (bs.map enc)) (hk : TupsE (bs.map enc)) (hL : bs.length ≤ sizeLine)
    (hu : ∀ b, b ∈ bs → A.units + 2 + (enc b).depth < cLine) (h : ∀ out, out.length = bs.length → EachIs R out (bs.mergeSort (dataLe false enc)) → Q (.ref (s.heap.objs.size + 1)) { s with heap := sortedAll s.heap vs (List.toArray out) }) :
    wpAny (model prog w) A (call (.builtin "sorted") [.ref l]) Q E s := by
  have er' : EachIs (fun v b => ∃ as, Reads (sortingHeap (copyHeap s.heap vs) (s.heap.objs.size + 1) vs) v (enc b) as) vs bs := er.mono fun _ _ ⟨as, r⟩ => ⟨as, PyProof.Rows.Reads.keeps (fun _ _ => sorting_copy_old) r⟩
  exact sorted_vals hl (sortsE (s := { s with heap := sortingHeap (copyHeap s.heap vs) (s.heap.objs.size + 1) vs }) (each_map (R := fun v d => ∃ as, Reads (sortingHeap (copyHeap s.heap vs) (s.heap.objs.size + 1) vs) v d as) enc er') hal hk (bound_map hu)) (by rw [e.length]; exact hL)
    (h _ (by rw [sortVals_length false rfl]; exact e.length) (sortVals_data false e er' hal))
end
def rSortData (K : PySem.W.Frag) : List L2.V → Hp → VK → Prop := fun vs H Q => ∃ (a : Addr) (xs : List L2.V) (ds : List D), vs = [.ref a] ∧ SqL K H a xs ∧ xs.length = ds.length ∧ DpAll K H xs (pys ds) ∧ AllAlike (ds.map py) ∧ (Sortable (ds.map py) ∨ TupsE (ds.map py)) ∧ (∀ d ∈ ds, (py d).depth ≤ 12) ∧
  ∀ p, H p = none → Q (.ref p) (upd H p (.lst (((xs.zip ds).mergeSort leP).map (·.1))))
section
variable {X : Cx}
theorem each_zip {H : Hp} {pins : List (Addr × Obj)} {σ : L2.St} {s : Shared} (I : Inv X pins σ H s) : ∀ {xs : List L2.V} {us : List Value} {ds : List D}, Vals xs us → xs.length = ds.length → DpAll X.K H xs (pys ds) →
    EachIs (fun u (b : L2.V × D) => RelV b.1 u) us (xs.zip ds) ∧ EachIs (fun u (b : L2.V × D) => ∃ as, Reads s.heap u (py b.2) as) us (xs.zip ds)
  | [], _, [], r, _, _ => by cases r; exact ⟨.nil, .nil⟩
  | x :: xs, _, d :: ds, r, hl, h => by
    cases r with
    | cons r t =>
      simp only [pys] at h
      cases h with
      | cons h1 h2 =>
        obtain ⟨e1, e2⟩ := each_zip I t (by simpa using hl) h2
        exact ⟨.cons r e1, .cons (Dp.reads I _ _ _ h1 r) e2⟩
  | [], _, _ :: _, _, hl, _ => by simp at hl
  | _ :: _, _, [], _, hl, _ => by simp at hl
theorem each_vals : ∀ {us : List Value} {bs : List (L2.V × D)}, EachIs (fun u (b : L2.V × D) => RelV b.1 u) us bs → Vals (bs.map (·.1)) us
  | _, _, .nil => .nil
  | _, _, .cons h t => .cons h (each_vals t)
theorem zip_py : ∀ {xs : List L2.V} {ds : List D}, xs.length = ds.length → (xs.zip ds).map (fun b => py b.2) = ds.map py
  | [], [], _ => rfl
  | x :: xs, d :: ds, h => by simp [zip_py (xs := xs) (ds := ds) (by simpa using h)]
  | [], _ :: _, h => by simp at h
  | _ :: _, [], h => by simp at h
theorem cr_sortedData (hu : X.A.units + 64 < cLine) : CallR X (.builtin "sorted") (rSortData X.K) := by
  intro pins s σ H vs us Q I r h
  obtain ⟨a, xs, ds, rfl, hs, hl, hd, hal, hk, hdp, q⟩ := h
  obtain ⟨its, rv, pl, hz⟩ := I.list hs
  obtain ⟨u, rfl, ru⟩ := vals1 r
  obtain rfl : u = Value.ref a := ru
  obtain ⟨e1, e2⟩ := each_zip I rv hl hd
  have hzl : (xs.zip ds).length ≤ sizeLine := by rw [List.length_zip, ← hl, Nat.min_self]; exact hz
  have fin : ∀ out : List Value, out.length = (xs.zip ds).length → EachIs (fun u (b : L2.V × D) => RelV b.1 u) out ((xs.zip ds).mergeSort (dataLe false fun b : L2.V × D => py b.2)) → EP X pins σ Q (.ref (s.heap.objs.size + 1)) { s with heap := sortedAll s.heap its (List.toArray out) } := by
    intro out ho hx
    obtain ⟨e, he⟩ := sortedAll_at s.heap its out.toArray
    have hn : H (s.heap.objs.size + 1) = none := I.hok.fresh (by omega)
    refine ⟨.ref (s.heap.objs.size + 1), _, I.laid (t' := s.toks) (o := .lst (((xs.zip ds).mergeSort leP).map (·.1))) (fun b u hb => sortedAll_old hb) (by omega) ?_, rfl, q _ hn⟩
    refine ⟨?_, out, e, each_vals hx, he⟩
    rw [List.length_map, List.length_mergeSort]
    exact hzl
  rcases hk with hk | hk
  · exact sorted_data (enc := fun b : L2.V × D => py b.2) (bs := xs.zip ds) pl.isList e1 e2 (by rw [zip_py hl]; exact hal) (by rw [zip_py hl]; exact hk) hzl (fun b hb => by
      have := hdp b.2 (List.of_mem_zip hb).2
      omega) fin
  · exact sorted_dataE (enc := fun b : L2.V × D => py b.2) (bs := xs.zip ds) pl.isList e1 e2 (by rw [zip_py hl]; exact hal) (by rw [zip_py hl]; exact hk) hzl (fun b hb => by
      have := hdp b.2 (List.of_mem_zip hb).2
      omega) fin
end
end TS

set_option maxRecDepth 100000
/-! Dicts read; items; built-ins; methods of lists. -/
namespace TS
open PySem PySem.Spec PyProof.Rows L2
section
variable {N : Nm} {K : PySem.W.Frag} {T : List (Addr × Str)} {L L' : Loc} {H H' : Hp} {s : Sto}
/-! ### keys -/
theorem kD_inj {a b : Key} (h : kD a = kD b) : a = b := by
  cases a <;> cases b <;> simp [kD] at h <;> rw [h]
theorem kDs_inj : ∀ {a b : List Key}, a.map kD = b.map kD → a = b
  | [], [], _ => rfl
  | [], _ :: _, h => by simp at h
  | _ :: _, [], h => by simp at h
  | x :: xs, y :: ys, h => by
    simp only [List.map_cons, List.cons.injEq] at h
    rw [kD_inj h.1, kDs_inj h.2]
theorem kT_inj {a b : List Key} (h : kT a = kT b) : a = b := kDs_inj (by simpa [kT] using h)
theorem key1_ex {d : D} (h : TT.key1 d = true) : ∃ k, d = kD k := by
  cases d <;> simp [TT.key1] at h
  · exact ⟨.inl _, rfl⟩
  · exact ⟨.inr _, rfl⟩
theorem key1s_ex : ∀ {ds : List D}, ds.all TT.key1 = true → ∃ ks : List Key, ds = ks.map kD
  | [], _ => ⟨[], rfl⟩
  | d :: ds, h => by
    simp only [List.all_cons, Bool.and_eq_true] at h
    obtain ⟨k, rfl⟩ := key1_ex h.1
    obtain ⟨ks, rfl⟩ := key1s_ex h.2
    exact ⟨k :: ks, rfl⟩
theorem keyT_ex {d : D} (h : TT.keyT d = true) : ∃ ks : List Key, d = kT ks := by
  cases d <;> simp [TT.keyT] at h
  obtain ⟨ks, rfl⟩ := key1s_ex (ds := _) (List.all_eq_true.mpr h)
  exact ⟨ks, rfl⟩
theorem RepD.kV_inv {v : L2.V} {k : Key} (r : RepD N K L H v (kD k)) : v = kV k := by
  cases k with
  | inl i => exact RepD.int_inv r
  | inr x => exact RepD.str_inv r
theorem RepDs.kV_inv : ∀ {ks : List Key} {vs : List L2.V}, RepDs N K L H vs (ks.map kD) → vs = ks.map kV
  | [], _, r => by cases r; rfl
  | k :: ks, _, r => by
    cases r with
    | cons r t => rw [RepD.kV_inv r, RepDs.kV_inv t]; rfl
theorem RepD.kT_inv {v : L2.V} {ks : List Key} (r : RepD N K L H v (kT ks)) : ∃ b, v = .ref b ∧ H b = some (.tup (ks.map kV)) := by
  obtain ⟨a, xs, rfl, h, t⟩ := RepD.tup_inv r
  exact ⟨a, rfl, by rw [h.2, RepDs.kV_inv t]⟩
/-- what is found by a key -/
theorem look_val {κ : Type} [DecidableEq κ] {f : κ → D} (inj : ∀ a b, f a = f b → a = b) {k : κ} : ∀ {kvs : List (κ × L2.V)} {vs : List D}, RepDs N K L H (kvs.map (·.2)) vs →
    (match TT.look (f k) (kvs.map fun p => f p.1) vs with
      | some d => ∃ v, valV kvs k = some v ∧ RepD N K L H v d
      | none => valV kvs k = none)
  | [], vs, r => by simp [TT.look, valV_nil]
  | p :: r, vs, h => by
    cases h with
    | cons h t =>
      rename_i d ds
      simp only [List.map_cons, TT.look]
      by_cases e : p.1 = k
      · rw [if_pos (by rw [e])]
        exact ⟨p.2, valV_pos e, h⟩
      · rw [if_neg (fun q => e (inj _ _ q)), valV_neg e]
        exact look_val inj t
theorem mem_val {κ : Type} [DecidableEq κ] {f : κ → D} (inj : ∀ a b, f a = f b → a = b) {k : κ} (kvs : List (κ × L2.V)) : (valV kvs k).isSome = decide (f k ∈ kvs.map fun p => f p.1) := by
  rw [← valV_any]
  induction kvs with
  | nil => simp
  | cons p r ih =>
    simp only [List.any_cons, ih, List.map_cons, List.mem_cons, Bool.decide_or]
    congr 1
    exact decide_eq_decide.mpr ⟨fun q => by rw [q], fun q => inj _ _ q.symm⟩
theorem key1_kn {d : D} (h : TT.key1 d = true) (h' : TT.keyN d = true) : False := by cases d <;> simp [TT.key1, TT.keyN] at h h'
theorem dnAt_mem {k : D} (kvs : List (D × Addr × L2.V)) : (dnAt kvs k).isSome = decide (k ∈ kvs.map (·.1)) := by
  unfold dnAt
  induction kvs with
  | nil => simp
  | cons p r ih =>
    simp only [List.find?_cons, List.map_cons, List.mem_cons]
    by_cases e : p.1 = k
    · simp [e]
    · simp only [decide_eq_false e]
      rw [ih]
      exact decide_eq_decide.mpr ⟨.inr, fun q => q.resolve_left fun z => e z.symm⟩
theorem look_dn {k : D} : ∀ {kvs : List (D × Addr × L2.V)} {vs : List D}, RepDs N K L H (kvs.map (·.2.2)) vs → ∀ d, TT.look k (kvs.map (·.1)) vs = some d → ∃ v, dnAt kvs k = some v ∧ RepD N K L H v d
  | [], _, r, d, h => by cases r; simp [TT.look] at h
  | p :: kvs, _, r, d, h => by
    simp only [List.map_cons] at r h
    cases r with
    | cons r t =>
      simp only [TT.look] at h
      unfold dnAt
      simp only [List.find?_cons]
      by_cases e : p.1 = k
      · rw [if_pos e] at h
        cases h
        exact ⟨p.2.2, by simp [e], r⟩
      · rw [if_neg e] at h
        simp only [decide_eq_false e]
        exact look_dn t d h
theorem keys_dp : ∀ {kvs : List (D × Addr × L2.V)}, (∀ p ∈ kvs, TT.keyN p.1 = true) → RepDs N K L H (kvs.map fun p => .ref p.2.1) (kvs.map (·.1)) → ∀ p ∈ kvs, Dp K H (.ref p.2.1) (py p.1)
  | [], _, _, _, h => by cases h
  | p :: kvs, hk, r, q, h => by
    simp only [List.map_cons] at r
    cases r with
    | cons r t =>
      rcases List.mem_cons.mp h with rfl | h
      · exact RepD.dp false 8 _ _ (kn_pl 8 _ (keyN_kn (hk q (by simp)))) r
      · exact keys_dp (fun p hp => hk p (by simp [hp])) t q h
/-- a dict that is read -/
theorem dctOf_rep {v : L2.V} {w : W} {t : Nat} {ks vs : List D} (z : RelS N K T L H s) (r : RepW N K L H v w) (h : TT.dctOf s w = some (t, ks, vs)) :
    (∃ a kvs, v = .ref a ∧ t = 0 ∧ ks = kvs.map (fun p => kD p.1) ∧ Rd H a (.dK kvs) ∧ RepDs N K L H (kvs.map (·.2)) vs) ∨
    (∃ a kvs, v = .ref a ∧ t = 1 ∧ ks = kvs.map (fun p => kT p.1) ∧ Rd H a (.dT kvs) ∧ RepDs N K L H (kvs.map (·.2)) vs) ∨
    (∃ a, v = .ref a ∧ t = 3 ∧ ks = [] ∧ vs = [] ∧ Rd H a (.dK [])) ∨
    (∃ a w kvs, v = .ref a ∧ t = 2 ∧ ks = kvs.map (·.1) ∧ H a = some (DN w a kvs) ∧ DnOk a kvs ∧ RepDs N K L H (kvs.map fun p => .ref p.2.1) (kvs.map (·.1)) ∧ RepDs N K L H (kvs.map (·.2.2)) vs) := by
  cases w with
  | d x =>
    cases x <;> simp [TT.dctOf] at h
    obtain ⟨rfl, rfl, rfl⟩ := h
    cases r with
    | dK n e r => exact .inl ⟨_, _, rfl, rfl, rfl, e, r⟩
    | dT n e r => exact .inr (.inl ⟨_, _, rfl, rfl, rfl, e, r⟩)
    | d3 n e => exact .inr (.inr (.inl ⟨_, rfl, rfl, rfl, rfl, e⟩))
    | dN n e k rk r => exact .inr (.inr (.inr ⟨_, _, _, rfl, rfl, rfl, e, k, rk, r⟩))
  | loc l =>
    obtain ⟨a, e, rfl⟩ := r
    simp only [TT.dctOf] at h
    split at h
    · rename_i t' ks' vs' e'
      simp only [Option.some.injEq, Prod.mk.injEq] at h
      obtain ⟨rfl, rfl, rfl⟩ := h
      obtain ⟨b, f, _, m⟩ := z.loc e' (fun q => nomatch q)
      rw [e] at f; cases f
      cases m with
      | dK e r => exact .inl ⟨_, _, rfl, rfl, rfl, .inl e, r⟩
      | dT e r => exact .inr (.inl ⟨_, _, rfl, rfl, rfl, .inl e, r⟩)
      | d3 e => exact .inr (.inr (.inl ⟨_, rfl, rfl, rfl, rfl, .inl e⟩))
      | dN e k rk r => exact .inr (.inr (.inr ⟨_, _, _, rfl, rfl, rfl, e, k, rk, r⟩))
    · cases h
theorem RepD.keyN_inv {v : L2.V} {k : D} (hk : TT.keyN k = true) (r : RepD N K L H v k) : ∃ b, v = .ref b ∧ Dp K H (.ref b) (py k) := by
  cases k <;> first | (simp [TT.keyN] at hk; done) | skip
  have h := RepD.dp false 8 _ _ (kn_pl 8 _ (keyN_kn hk)) r
  cases r with
  | tup e r => exact ⟨_, rfl, h⟩
/-- what the dict tells of a key -/
theorem dget_rep {x y : L2.V} {wx : W} {k : D} {t : Nat} {ks vs : List D} (z : RelS N K T L H s) (rx : RepW N K L H x wx) (ry : RepD N K L H y k) (h : TT.dctOf s wx = some (t, ks, vs)) (hk : TT.keysOk t k = true) :
    ∃ a o, x = .ref a ∧ (DGet H a y o ∨ DGetN K H a y o) ∧ o.isSome = decide (k ∈ ks) ∧ ∀ d, TT.look k ks vs = some d → ∃ v, o = some v ∧ RepD N K L H v d := by
  rcases dctOf_rep z rx h with ⟨a, kvs, rfl, rfl, rfl, e, r⟩ | ⟨a, kvs, rfl, rfl, rfl, e, r⟩ | ⟨a, rfl, rfl, rfl, rfl, e⟩ | ⟨a, w, kvs, rfl, rfl, rfl, e, ok, rk, r⟩
  · obtain ⟨q, rfl⟩ := key1_ex (by simpa [TT.keysOk] using hk)
    refine ⟨a, valV kvs q, rfl, .inl (.inl ⟨kvs, q, e, RepD.kV_inv ry, rfl⟩), mem_val (fun _ _ => kD_inj) kvs, fun d hd => ?_⟩
    have := look_val (k := q) (f := kD) (fun _ _ => kD_inj) r
    rw [hd] at this
    exact this
  · obtain ⟨q, rfl⟩ := keyT_ex (by simpa [TT.keysOk] using hk)
    obtain ⟨b, rfl, hb⟩ := RepD.kT_inv ry
    refine ⟨a, valV kvs q, rfl, .inl (.inr ⟨kvs, q, b, e, rfl, hb, rfl⟩), mem_val (fun _ _ => kT_inj) kvs, fun d hd => ?_⟩
    have := look_val (k := q) (f := kT) (fun _ _ => kT_inj) r
    rw [hd] at this
    exact this
  · simp only [TT.keysOk, Bool.or_eq_true] at hk
    rcases hk with hk | hk
    · obtain ⟨q, rfl⟩ := key1_ex hk
      exact ⟨a, none, rfl, .inl (.inl ⟨[], q, e, RepD.kV_inv ry, rfl⟩), by simp, fun d hd => by simp [TT.look] at hd⟩
    · obtain ⟨b, rfl, hb⟩ := RepD.keyN_inv hk ry
      exact ⟨a, none, rfl, .inr ⟨b, k, rfl, hk, hb, .inr ⟨e, rfl⟩⟩, by simp, fun d hd => by simp [TT.look] at hd⟩
  · have hk' : TT.keyN k = true := by simpa [TT.keysOk] using hk
    obtain ⟨b, rfl, hb⟩ := RepD.keyN_inv hk' ry
    exact ⟨a, dnAt kvs k, rfl, .inr ⟨b, k, rfl, hk', hb, .inl ⟨w, kvs, e, ok, keys_dp ok.key rk, rfl⟩⟩, dnAt_mem kvs, fun d hd => look_dn r d hd⟩
theorem ints_rep : ∀ {ds : List D} {xs : List L2.V} {ns : List Int}, RepDs N K L H xs ds → TT.dInts ds = some ns → xs = ns.map V.int
  | [], _, ns, r, h => by cases r; cases h; rfl
  | d :: ds, _, ns, r, h => by
    cases r with
    | cons r t =>
      cases d <;> simp [TT.dInts] at h
      obtain ⟨ms, h1, rfl⟩ := h
      rw [RepD.int_inv r, ints_rep t h1]; rfl
theorem bls_rep : ∀ {ds : List D} {xs : List L2.V} {ns : List Bool}, RepDs N K L H xs ds → TT.bls ds = some ns → xs = ns.map V.bl
  | [], _, ns, r, h => by cases r; cases h; rfl
  | d :: ds, _, ns, r, h => by
    cases r with
    | cons r t =>
      cases d <;> simp [TT.bls] at h
      obtain ⟨ms, h1, rfl⟩ := h
      rw [RepD.bl_inv r, bls_rep t h1]; rfl
/-! ### items -/
theorem ix_len (n : Nat) (i : Int) : TT.ixOf n i = ixN n i := rfl
theorem at_len {α : Type} (xs : List α) (i : Int) : TT.atI xs i = atI xs i := rfl
theorem atI_rep {xs : List L2.V} {ds : List D} {i : Int} {d : D} (r : RepDs N K L H xs ds) (h : TT.atI ds i = some d) : ∃ v, atI xs i = some v ∧ RepD N K L H v d := by
  unfold TT.atI at h
  cases e : TT.ixOf ds.length i with
  | none => rw [e] at h; simp at h
  | some j =>
    rw [e] at h
    obtain ⟨v, h1, h2⟩ := r.get (i := j) (by simpa using h)
    refine ⟨v, ?_, h2⟩
    unfold atI
    rw [r.len, ← ix_len, e]
    exact h1
end
/-- a call of a built-in with one thing, with two -/
def Snd1c (N : Nm) (X : Cx) (T : List (Addr × Str)) (f : Value) (g : W → Sto → TT.R TT.Vl) : Prop :=
  ∃ r, CallR X f r ∧ ∀ (fz : Bool) (L : Loc) (H : Hp) (s : Sto) (x : L2.V) (wx : W) (Q : VK) (er : Nat → Hp → Prop), RelS N X.K T L H s → RepW N X.K L H x wx →
    Out N X.K T L H (okW N X.K Q) er ((g wx s).bind (TT.fin fz)) → r [x] H Q
def Snd2c (N : Nm) (X : Cx) (T : List (Addr × Str)) (f : Value) (g : W → W → Sto → TT.R TT.Vl) : Prop :=
  ∃ r, CallR X f r ∧ ∀ (fz : Bool) (L : Loc) (H : Hp) (s : Sto) (x y : L2.V) (wx wy : W) (Q : VK) (er : Nat → Hp → Prop), RelS N X.K T L H s → RepW N X.K L H x wx → RepW N X.K L H y wy →
    Out N X.K T L H (okW N X.K Q) er ((g wx wy s).bind (TT.fin fz)) → r [x, y] H Q
/-- a method of a built-in type, with no, with one argument -/
def SndM (N : Nm) (X : Cx) (T : List (Addr × Str)) (id : String) (g : W → List W → Sto → TT.R TT.Vl) : Prop :=
  ∃ r, MtR X id r ∧ ∀ (fz : Bool) (L : Loc) (H : Hp) (s : Sto) (x : L2.V) (xs : List L2.V) (wx : W) (ws : List W) (Q : VK) (er : Nat → Hp → Prop), RelS N X.K T L H s → RepW N X.K L H x wx → RepWs N X.K L H xs ws →
    Out N X.K T L H (okW N X.K Q) er ((g wx ws s).bind (TT.fin fz)) → r x xs H Q
def SndI (N : Nm) (X : Cx) (T : List (Addr × Str)) (g : W → W → Sto → TT.R TT.Vl) : Prop :=
  ∃ r : R2, IxR X r ∧ ∀ (fz : Bool) (L : Loc) (H : Hp) (s : Sto) (x y : L2.V) (wx wy : W) (Q : VK) (er : Nat → Hp → Prop), RelS N X.K T L H s → RepW N X.K L H x wx → RepW N X.K L H y wy →
    Out N X.K T L H (okW N X.K Q) er ((g wx wy s).bind (TT.fin fz)) → r x y H Q
section
variable {N : Nm} {X : Cx} {T : List (Addr × Str)}
/-! ### in, not in a dict; a sign in a text -/
theorem OpR.or {f : Value → Value → Sem Value} {r r' : R2} (h : OpR X f r) (h' : OpR X f r') : OpR X f (fun x y H Q => r x y H Q ∨ r' x y H Q) := by
  intro pins s σ H x y v u Q I rx ry q
  rcases q with q | q
  · exact h pins s σ H x y v u Q I rx ry q
  · exact h' pins s σ H x y v u Q I rx ry q
def rInDK (neg : Bool) : R2 := fun y x H Q => ∃ a o, x = .ref a ∧ DGet H a y o ∧ Q (.bl (if neg then !o.isSome else o.isSome)) H
def rInDc (K : PySem.W.Frag) (neg : Bool) : R2 := fun y x H Q => rInDK neg y x H Q ∨ rInN K neg y x H Q
theorem op_inDK (hu : X.A.units + 64 < cLine) : OpR X (compareOp .In) (rInDK false) := by
  intro pins s σ H y x u v Q I ry rx h
  obtain ⟨a, o, rfl, g, q⟩ := h
  cases rx
  exact d_in (by omega) I g ry fun s' I' => ⟨.bl _, H, I', rfl, q⟩
theorem op_ninDK (hu : X.A.units + 64 < cLine) : OpR X (compareOp .NotIn) (rInDK true) := by
  intro pins s σ H y x u v Q I ry rx h
  obtain ⟨a, o, rfl, g, q⟩ := h
  cases rx
  exact d_notIn (by omega) I g ry fun s' I' => ⟨.bl _, H, I', rfl, q⟩
theorem op_inDc (hu : X.A.units + 64 < cLine) : OpR X (compareOp .In) (rInDc X.K false) := OpR.or (op_inDK hu) (op_inN hu)
theorem op_ninDc (hu : X.A.units + 64 < cLine) : OpR X (compareOp .NotIn) (rInDc X.K true) := OpR.or (op_ninDK hu) (op_ninN hu)
theorem inDc_snd {neg fz : Bool} {L : Loc} {H : Hp} {s : Sto} {x y : L2.V} {wx wy : W} {Q : VK} {er : Nat → Hp → Prop} (z : RelS N X.K T L H s) (rx : RepW N X.K L H x wx) (ry : RepW N X.K L H y wy)
    (o : Out N X.K T L H (okW N X.K Q) er ((TT.inDc neg wx wy s).bind (TT.fin fz))) : rInDc X.K neg x y H Q := by
  unfold TT.inDc at o
  split at o
  · rename_i a t ks vs e
    split at o
    · rename_i hk
      obtain ⟨b, ov, rfl, g, m, _⟩ := dget_rep z ry rx e hk
      have o' := fin_bl z o
      rw [← m] at o'
      rcases g with g | g
      · exact .inl ⟨b, ov, rfl, g, o'⟩
      · exact .inr ⟨b, ov, rfl, g, o'⟩
    · exact no_out o
  · exact no_out o
theorem snd_inD (hu : X.A.units + 64 < cLine) : Snd2 N X T (compareOp .In) (fun x y s => TT.opSem .inD [x, y] s) :=
  ⟨_, op_inDc hu, fun fz L H s x y wx wy Q er z rx ry o => inDc_snd z rx ry o⟩
theorem snd_ninD (hu : X.A.units + 64 < cLine) : Snd2 N X T (compareOp .NotIn) (fun x y s => TT.opSem .ninD [x, y] s) :=
  ⟨_, op_ninDc hu, fun fz L H s x y wx wy Q er z rx ry o => inDc_snd z rx ry o⟩
theorem str_one {x : Str} {c : Nat} (h : x.cps.toList = [c]) : x = ⟨#[c]⟩ := by
  obtain ⟨a⟩ := x
  have : a = #[c] := by
    apply Array.ext'
    simpa using h
  rw [this]
theorem snd_inT : Snd2 N X T (compareOp .In) (fun x y s => TT.opSem .inT [x, y] s) := by
  refine ⟨_, op_in_sign, fun fz L H s x y wx wy Q er z rx ry o => ?_⟩
  simp only [TT.opSem] at o
  unfold TT.inTx at o
  split at o
  · split at o
    · rename_i c e
      refine ⟨c, _, ?_, RepD.str_inv ry, fin_bl z o⟩
      rw [RepD.str_inv rx, str_one e]
    · exact no_out o
  · exact no_out o
theorem snd_ninT : Snd2 N X T (compareOp .NotIn) (fun x y s => TT.opSem .ninT [x, y] s) := by
  refine ⟨_, op_notIn_sign, fun fz L H s x y wx wy Q er z rx ry o => ?_⟩
  simp only [TT.opSem] at o
  unfold TT.inTx at o
  split at o
  · split at o
    · rename_i c e
      refine ⟨c, _, ?_, RepD.str_inv ry, fin_bl z o⟩
      rw [RepD.str_inv rx, str_one e]
    · exact no_out o
  · exact no_out o
/-! ### items -/
theorem snd_ix : SndI N X T (fun x y s => TT.opSem .ix [x, y] s) := by
  refine ⟨_, ix_seq, fun fz L H s x y wx wy Q er z rx ry o => ?_⟩
  simp only [TT.opSem] at o
  unfold TT.ixS at o
  split at o
  · rename_i zz i
    split at o
    · rename_i hs
      cases e : TT.atI zz.cps.toList i with
      | none => rw [e] at o; exact no_out o
      | some c =>
        rw [e] at o
        have := small_le hs
        exact .inr (.inr ⟨zz, i, c, RepD.str_inv rx, RepD.int_inv ry, by rw [sizeLine_eq]; omega, e, fin_d z o (.str _)⟩)
    · exact no_out o
  · rename_i i _
    split at o
    · rename_i ds e
      cases e2 : TT.atI ds i with
      | none => rw [e2] at o; exact no_out o
      | some d =>
        rw [e2] at o
        obtain ⟨a, xs, rfl, hs, rs⟩ := seqOf_rep z rx e
        obtain ⟨v, h1, h2⟩ := atI_rep rs e2
        rcases hs with hs | hs
        · exact .inl ⟨a, xs, i, v, rfl, RepD.int_inv ry, hs, h1, fin_d z o h2⟩
        · exact .inr (.inl ⟨a, xs, i, v, rfl, RepD.int_inv ry, hs, h1, fin_d z o h2⟩)
    · exact no_out o
  · exact no_out o
/-- d[k] -/
theorem snd_dget (hu : X.A.units + 64 < cLine) : SndI N X T (fun x y s => TT.opSem .dget [x, y] s) := by
  refine ⟨_, (ix_dd hu).or (ix_dn hu), fun fz L H s x y wx wy Q er z rx ry o => ?_⟩
  simp only [TT.opSem] at o
  unfold TT.dgetS at o
  split at o
  · rename_i t ks vs k e
    split at o
    · rename_i hk
      obtain ⟨b, ov, rfl, g, _, m⟩ := dget_rep z rx ry e hk
      cases e2 : TT.look k ks vs with
      | none => rw [e2] at o; exact no_out o
      | some d =>
        rw [e2] at o
        obtain ⟨v, rfl, rv⟩ := m d e2
        rcases g with g | g
        · exact .inl ⟨b, v, rfl, g, fin_d z o rv⟩
        · exact .inr ⟨b, v, rfl, g, fin_d z o rv⟩
    · exact no_out o
  · exact no_out o
theorem snd_lenD : Snd1c N X T (.builtin "len") (fun x s => TT.opSem .lenD [x] s) := by
  refine ⟨_, cr_lenU, fun fz L H s x wx Q er z rx o => ?_⟩
  simp only [TT.opSem] at o
  unfold TT.lenDS at o
  split at o
  · rename_i t ks vs e0
    rcases dctOf_rep z rx e0 with ⟨a, kvs, rfl, rfl, rfl, e, r⟩ | ⟨a, kvs, rfl, rfl, rfl, e, r⟩ | ⟨a, rfl, rfl, rfl, rfl, e⟩ | ⟨a, w, kvs, rfl, rfl, rfl, e, ok, rk, r⟩
    · exact ⟨a, _, rfl, .inl ⟨kvs, e, rfl⟩, by simpa using fin_int z o⟩
    · exact ⟨a, _, rfl, .inr (.inl ⟨kvs, e, rfl⟩), by simpa using fin_int z o⟩
    · exact ⟨a, _, rfl, .inl ⟨[], e, rfl⟩, by simpa using fin_int z o⟩
    · exact ⟨a, _, rfl, .inr (.inr ⟨w, kvs, e, ok, keys_dp ok.key rk, rfl⟩), by simpa using fin_int z o⟩
  · exact no_out o
/-! ### built-ins -/
theorem snd_len : Snd1c N X T (.builtin "len") (fun x s => TT.opSem .len [x] s) := by
  refine ⟨_, call_len_str.or call_len_seq, fun fz L H s x wx Q er z rx o => ?_⟩
  simp only [TT.opSem] at o
  unfold TT.lenS at o
  split at o
  · split at o
    · rename_i hs
      have := small_le hs
      exact .inl ⟨_, by rw [RepD.str_inv rx], by rw [sizeLine_eq]; omega, fin_int z o⟩
    · exact no_out o
  · split at o
    · rename_i ds e
      obtain ⟨a, xs, rfl, hs, rs⟩ := seqOf_rep z rx e
      refine .inr ⟨a, xs, rfl, hs, ?_⟩
      rw [rs.len]
      exact fin_int z o
    · exact no_out o
theorem snd_abs : Snd1c N X T (.builtin "abs") (fun x s => TT.opSem .abs [x] s) := by
  refine ⟨_, call_abs, fun fz L H s x wx Q er z rx o => ?_⟩
  simp only [TT.opSem] at o
  unfold TT.absS at o
  split at o
  · exact ⟨_, by rw [RepD.int_inv rx], fin_int z o⟩
  · exact no_out o
theorem snd_int : Snd1c N X T (.type "int") (fun x s => TT.opSem .int [x] s) := by
  refine ⟨_, call_int1, fun fz L H s x wx Q er z rx o => ?_⟩
  simp only [TT.opSem] at o
  unfold TT.intS at o
  split at o
  · exact .inr ⟨_, by rw [RepD.bl_inv rx], fin_int z o⟩
  · exact .inl ⟨_, by rw [RepD.int_inv rx], fin_int z o⟩
  · exact no_out o
def rSumB (K : PySem.W.Frag) : List L2.V → Hp → VK → Prop := fun vs H Q => ∃ (a : Addr) (ns : List Int), vs = [.ref a] ∧ (SqL K H a (ns.map L2.V.int) ∨ SqT K H a (ns.map L2.V.int)) ∧ Q (.int ns.sum) H
theorem cr_sumB (hc : X.calm = true) : CallR X (.builtin "sum") (rSumB X.K) := by
  intro pins s σ H vs us Q I r h
  obtain ⟨a, ns, rfl, hs | hs, q⟩ := h
  · exact cr_sum hc pins s σ H _ us Q I r ⟨a, ns, rfl, hs, q⟩
  · obtain ⟨its, rv, pl, _⟩ := I.tuple hs
    rw [Vals.ref1 r]
    have hi := rv.ints
    obtain ⟨xs, hx⟩ := hi.allInts.items
    have hn : numsOf its.toArray.toList = ns := by rw [show its.toArray.toList = its from rfl, hi.numsOf]
    rw [hx] at pl hn
    rw [nums_intItems] at hn
    refine PySem.W.ktm_sumG (I.ok.hd hc) pl fun h' tk t' hk => ?_
    rw [preSum_eq, List.take_of_length_le (by simp), hn]
    exact ⟨.int _, H, I.kept hk, ⟨_, rfl⟩, q⟩
theorem snd_sum (hc : X.calm = true) : Snd1c N X T (.builtin "sum") (fun x s => TT.opSem .sum [x] s) := by
  refine ⟨_, cr_sumB hc, fun fz L H s x wx Q er z rx o => ?_⟩
  simp only [TT.opSem] at o
  unfold TT.sumS at o
  split at o
  · rename_i ds e
    cases e2 : TT.dInts ds with
    | none => rw [e2] at o; exact no_out o
    | some ns =>
      rw [e2] at o
      obtain ⟨a, xs, rfl, hs, rs⟩ := seqOf_rep z rx e
      rw [ints_rep rs e2] at hs
      exact ⟨a, ns, rfl, hs, fin_int z o⟩
  · exact no_out o
theorem max_uniq : ∀ {ns : List Int} {n m : Int}, m ∈ n :: ns → (∀ y ∈ n :: ns, y ≤ m) → m = ns.foldl max n
  | [], n, m, h, _ => by simpa using h
  | a :: ns, n, m, h, g => by
    rw [List.foldl_cons]
    refine max_uniq ?_ fun y hy => ?_
    · have h1 := g n (by simp)
      have h2 := g a (by simp)
      simp only [List.mem_cons] at h ⊢
      rcases h with rfl | rfl | h
      · left; omega
      · left; omega
      · exact .inr h
    · rcases List.mem_cons.mp hy with rfl | hy
      · have h1 := g n (by simp)
        have h2 := g a (by simp)
        omega
      · exact g y (by simp [hy])
theorem min_uniq : ∀ {ns : List Int} {n m : Int}, m ∈ n :: ns → (∀ y ∈ n :: ns, m ≤ y) → m = ns.foldl min n
  | [], n, m, h, _ => by simpa using h
  | a :: ns, n, m, h, g => by
    rw [List.foldl_cons]
    refine min_uniq ?_ fun y hy => ?_
    · have h1 := g n (by simp)
      have h2 := g a (by simp)
      simp only [List.mem_cons] at h ⊢
      rcases h with rfl | rfl | h
      · left; omega
      · left; omega
      · exact .inr h
    · rcases List.mem_cons.mp hy with rfl | hy
      · have h1 := g n (by simp)
        have h2 := g a (by simp)
        omega
      · exact g y (by simp [hy])
theorem snd_max1 (hc : X.calm = true) : Snd1c N X T (.builtin "max") (fun x s => TT.opSem .max1 [x] s) := by
  refine ⟨_, cr_max hc, fun fz L H s x wx Q er z rx o => ?_⟩
  simp only [TT.opSem] at o
  unfold TT.maxS at o
  split at o
  · rename_i ds e
    split at o
    · rename_i n ns e2
      obtain ⟨a, xs, rfl, hs, rs⟩ := lstOf_rep z rx e
      rw [ints_rep rs e2] at hs
      refine ⟨a, n :: ns, rfl, hs, by simp, fun m hm hx => ?_⟩
      rw [max_uniq hm hx]
      exact fin_int z o
    · exact no_out o
  · exact no_out o
theorem snd_min1 (hc : X.calm = true) : Snd1c N X T (.builtin "min") (fun x s => TT.opSem .min1 [x] s) := by
  refine ⟨_, cr_min hc, fun fz L H s x wx Q er z rx o => ?_⟩
  simp only [TT.opSem] at o
  unfold TT.minS at o
  split at o
  · rename_i ds e
    split at o
    · rename_i n ns e2
      obtain ⟨a, xs, rfl, hs, rs⟩ := lstOf_rep z rx e
      rw [ints_rep rs e2] at hs
      refine ⟨a, n :: ns, rfl, hs, by simp, fun m hm hx => ?_⟩
      rw [min_uniq hm hx]
      exact fin_int z o
    · exact no_out o
  · exact no_out o
theorem ins1_perm (i : Int) : ∀ l : List Int, (TT.ins1 i l).Perm (i :: l)
  | [] => List.Perm.refl _
  | j :: r => by
    unfold TT.ins1
    split
    · exact List.Perm.refl _
    · exact ((ins1_perm i r).cons j).trans (List.Perm.swap i j r)
theorem isort_perm : ∀ l : List Int, (TT.isort l).Perm l
  | [] => List.Perm.refl _
  | j :: r => (ins1_perm j (TT.isort r)).trans ((isort_perm r).cons j)
theorem ins1_sorted (i : Int) : ∀ l : List Int, l.Pairwise (· ≤ ·) → (TT.ins1 i l).Pairwise (· ≤ ·)
  | [], _ => List.pairwise_singleton _ _
  | j :: r, h => by
    rw [List.pairwise_cons] at h
    unfold TT.ins1
    split
    · rename_i q
      rw [List.pairwise_cons, List.pairwise_cons]
      exact ⟨fun y hy => by
        rcases List.mem_cons.mp hy with rfl | hy
        · exact q
        · exact Int.le_trans q (h.1 y hy), h⟩
    · rename_i q
      rw [List.pairwise_cons]
      refine ⟨fun y hy => ?_, ins1_sorted i r h.2⟩
      rcases List.mem_cons.mp ((ins1_perm i r).mem_iff.mp hy) with rfl | hy
      · omega
      · exact h.1 y hy
theorem isort_sorted : ∀ l : List Int, (TT.isort l).Pairwise (· ≤ ·)
  | [] => List.Pairwise.nil
  | j :: r => ins1_sorted j _ (isort_sorted r)
theorem sorted_uniq : ∀ {a b : List Int}, a.Perm b → a.Pairwise (· ≤ ·) → b.Pairwise (· ≤ ·) → a = b
  | [], b, h, _, _ => (List.Perm.eq_nil h.symm).symm
  | x :: a, [], h, _, _ => absurd h.length_eq (by simp)
  | x :: a, y :: b, h, ha, hb => by
    rw [List.pairwise_cons] at ha hb
    have e : x = y := by
      have h1 : y ∈ x :: a := h.mem_iff.mpr List.mem_cons_self
      have h2 : x ∈ y :: b := h.mem_iff.mp List.mem_cons_self
      rcases List.mem_cons.mp h1 with q | q
      · exact q.symm
      · rcases List.mem_cons.mp h2 with p | p
        · exact p
        · exact Int.le_antisymm (ha.1 y q) (hb.1 x p)
    subst e
    rw [sorted_uniq h.cons_inv ha.2 hb.2]
theorem ints_repD {K : PySem.W.Frag} {L : Loc} {H : Hp} : ∀ ns : List Int, RepDs N K L H (ns.map L2.V.int) (ns.map TT.D.int)
  | [] => .nil
  | n :: ns => .cons (.int n) (ints_repD ns)
theorem tups_pairs {ds : List D} (h : TT.tupsOk ds = true) : TT.tupsK ds = true ∧ (∀ a ∈ ds, (∃ xs, a = .tup xs) ∧ TT.D.kn 8 a = true) ∧ (∀ a ∈ ds, ∀ b ∈ ds, TT.D.al 8 a b = true ∧ ∃ r, TT.D.lt a b = some r) := by
  unfold TT.tupsOk at h
  rw [Bool.and_eq_true, Bool.and_eq_true, List.all_eq_true] at h
  refine ⟨h.1, fun a ha => ?_, fun a ha b hb => ?_⟩
  · have := h.2.1 a ha
    simp only [Bool.and_eq_true] at this
    refine ⟨?_, this.1.2⟩
    have q := this.1.1
    unfold TT.isTupD at q
    split at q
    · exact ⟨_, rfl⟩
    · cases q
  · have := h.2.1 a ha
    simp only [Bool.and_eq_true, List.all_eq_true] at this
    have q := this.2 b hb
    exact ⟨q.1, Option.isSome_iff_exists.mp q.2⟩
theorem tups_kind {ds : List D} (hk : TT.tupsK ds = true) (ht : ∀ a ∈ ds, ∃ xs, a = .tup xs) : PySem.W.Sortable (ds.map py) ∨ TupsE (ds.map py) := by
  have hne : (∀ a ∈ ds, TT.isTupNe a = true) → PySem.W.Sortable (ds.map py) := by
    intro h
    refine .inl fun d hd => ?_
    obtain ⟨y, hy, rfl⟩ := List.mem_map.mp hd
    have q := h y hy
    unfold TT.isTupNe at q
    split at q
    · rename_i x r
      exact ⟨py x, pys r, by simp [py, pys]⟩
    · cases q
  unfold TT.tupsK at hk
  split at hk
  · rename_i r
    refine .inr ⟨⟨r.map py, by simp [py, pys]⟩, fun d hd => ?_⟩
    obtain ⟨y, hy, rfl⟩ := List.mem_map.mp hd
    obtain ⟨xs, rfl⟩ := ht y hy
    exact ⟨pys xs, by simp [py]⟩
  · exact .inl (hne (List.all_eq_true.mp hk))
theorem pls_of : ∀ {ds : List D}, (∀ a ∈ ds, TT.D.kn 8 a = true) → TT.Ds.pl false 8 ds = true
  | [], _ => by simp [TT.Ds.pl]
  | d :: ds, h => by
    simp only [TT.Ds.pl, Bool.and_eq_true]
    exact ⟨kn_pl 8 d (h d (by simp)), pls_of fun a ha => h a (by simp [ha])⟩
theorem zip_snd : ∀ {xs : List L2.V} {ds : List D}, xs.length = ds.length → (xs.zip ds).map (·.2) = ds
  | [], [], _ => rfl
  | x :: xs, d :: ds, h => by simp [zip_snd (xs := xs) (ds := ds) (by simpa using h)]
  | [], _ :: _, h => by simp at h
  | _ :: _, [], h => by simp at h
theorem reps_zip {K : PySem.W.Frag} {L : Loc} {H : Hp} : ∀ {xs : List L2.V} {ds : List D}, RepDs N K L H xs ds → ∀ b ∈ xs.zip ds, RepD N K L H b.1 b.2
  | _, _, .nil, b, h => by simp at h
  | _, _, .cons r t, b, h => by
    rw [List.zip_cons_cons] at h
    rcases List.mem_cons.mp h with rfl | h
    · exact r
    · exact reps_zip t b h
theorem reps_of {K : PySem.W.Frag} {L : Loc} {H : Hp} : ∀ {bs : List (L2.V × D)}, (∀ b ∈ bs, RepD N K L H b.1 b.2) → RepDs N K L H (bs.map (·.1)) (bs.map (·.2))
  | [], _ => .nil
  | b :: bs, h => .cons (h b (by simp)) (reps_of fun c hc => h c (by simp [hc]))
theorem snd_sorted (hu : X.A.units + 64 < cLine) : Snd1c N X T (.builtin "sorted") (fun x s => TT.opSem .sorted [x] s) := by
  refine ⟨_, cr_sortedI.or (cr_sortedData hu), fun fz L H s x wx Q er z rx o => ?_⟩
  simp only [TT.opSem] at o
  unfold TT.sortedS at o
  split at o
  · rename_i ds e
    split at o
    · rename_i ns e2
      obtain ⟨a, xs, rfl, hs, rs⟩ := lstOf_rep z rx e
      rw [ints_rep rs e2] at hs
      refine .inl ⟨a, ns, rfl, hs, fun ns' p hp hx hn => ?_⟩
      rw [sorted_uniq (hp.trans (isort_perm ns).symm) hx (isort_sorted ns)]
      exact fin_fl z o (ints_repD _) hn
    · split at o
      · rename_i ht
        obtain ⟨h0, h1, h2⟩ := tups_pairs ht
        obtain ⟨a, xs, rfl, hs, rs⟩ := lstOf_rep z rx e
        have hpl : TT.Ds.pl false 8 ds = true := pls_of fun a ha => (h1 a ha).2
        refine .inr ⟨a, xs, ds, rfl, hs, rs.len, RepDs.dp false 8 ds xs hpl rs, ?_, tups_kind h0 fun a ha => (h1 a ha).1, fun d hd => Nat.le_trans (py_depth _ _ _ (kn_pl 8 d (h1 d hd).2)) (by omega), fun p hp => ?_⟩
        · intro d hd d' hd'
          obtain ⟨x, hx, rfl⟩ := List.mem_map.mp hd
          obtain ⟨y, hy, rfl⟩ := List.mem_map.mp hd'
          exact al_py 8 x y (h2 x hx y hy).1
        · have hle : ∀ p ∈ xs.zip ds, ∀ q ∈ xs.zip ds, leP p q = TT.leD p.2 q.2 := by
            intro p hp q hq
            have m1 := (List.of_mem_zip hp).2
            have m2 := (List.of_mem_zip hq).2
            obtain ⟨a1, r, a2⟩ := h2 q.2 m2 p.2 m1
            have := lt_py 8 q.2 p.2 r a1 (kn_pl 8 _ (h1 _ m2).2) (kn_pl 8 _ (h1 _ m1).2) a2
            unfold leP TT.leD
            rw [a2]
            show (!PySem.W.dataLt (py q.2) (py p.2)) = _
            rw [this]
            cases r <;> rfl
          have hm := List.map_mergeSort (r := leP) (s := TT.leD) (f := fun p : L2.V × D => p.2) (l := xs.zip ds) hle
          rw [zip_snd rs.len] at hm
          refine fin_fl z o ?_ hp
          rw [← hm]
          exact reps_of fun b hb => reps_zip rs b ((List.mergeSort_perm _ _).mem_iff.mp hb)
      · exact no_out o
  · exact no_out o
theorem snd_all (hc : X.calm = true) : Snd1c N X T (.builtin "all") (fun x s => TT.opSem .all [x] s) := by
  refine ⟨_, cr_all hc, fun fz L H s x wx Q er z rx o => ?_⟩
  simp only [TT.opSem] at o
  unfold TT.allS at o
  split at o
  · rename_i ds e
    cases e2 : TT.bls ds with
    | none => rw [e2] at o; exact no_out o
    | some ns =>
      rw [e2] at o
      obtain ⟨a, xs, rfl, hs, rs⟩ := lstOf_rep z rx e
      rw [bls_rep rs e2] at hs
      exact ⟨a, ns, rfl, hs, fin_bl z o⟩
  · exact no_out o
theorem snd_any (hc : X.calm = true) : Snd1c N X T (.builtin "any") (fun x s => TT.opSem .any [x] s) := by
  refine ⟨_, cr_any hc, fun fz L H s x wx Q er z rx o => ?_⟩
  simp only [TT.opSem] at o
  unfold TT.allS at o
  split at o
  · rename_i ds e
    cases e2 : TT.bls ds with
    | none => rw [e2] at o; exact no_out o
    | some ns =>
      rw [e2] at o
      obtain ⟨a, xs, rfl, hs, rs⟩ := lstOf_rep z rx e
      rw [bls_rep rs e2] at hs
      exact ⟨a, ns, rfl, hs, fin_bl z o⟩
  · exact no_out o
theorem snd_list : Snd1c N X T (.type "list") (fun x s => TT.opSem .list [x] s) := by
  refine ⟨_, call_list_of, fun fz L H s x wx Q er z rx o => ?_⟩
  simp only [TT.opSem] at o
  unfold TT.listS at o
  split at o
  · rename_i ds e
    obtain ⟨a, xs, rfl, hs, rs⟩ := seqOf_rep z rx e
    exact ⟨a, xs, rfl, hs, fun p hp => fin_fl z o rs hp⟩
  · exact no_out o
theorem snd_tuple : Snd1c N X T (.type "tuple") (fun x s => TT.opSem .tuple [x] s) := by
  refine ⟨_, call_tuple_of, fun fz L H s x wx Q er z rx o => ?_⟩
  simp only [TT.opSem] at o
  unfold TT.tupleS at o
  split at o
  · obtain ⟨a, xs, rfl, h, t⟩ := RepD.tup_inv rx
    exact ⟨a, xs, rfl, .inr ⟨h.seq, fin_d z o rx⟩⟩
  · split at o
    · rename_i ds e
      obtain ⟨a, xs, rfl, hs, rs⟩ := lstOf_rep z rx e
      exact ⟨a, xs, rfl, .inl ⟨hs, fun p hp => fin_tup z o rs hp⟩⟩
    · exact no_out o
theorem snd_c2 {f : Value} {g : Int → Int → Option D} {gV : Int → Int → L2.V} (h : CallR X f (fun xs H Q => ∃ i j, xs = [.int i, .int j] ∧ Q (gV i j) H))
    (hg : ∀ i j d, g i j = some d → ∀ L H, RepD N X.K L H (gV i j) d) : Snd2c N X T f (TT.int2 g) := by
  refine ⟨_, h, fun fz L H s x y wx wy Q er z rx ry o => ?_⟩
  unfold TT.int2 at o
  split at o
  · rename_i i j
    cases e : g i j with
    | none => rw [e] at o; exact no_out o
    | some d =>
      rw [e] at o
      exact ⟨i, j, by rw [RepD.int_inv rx, RepD.int_inv ry], fin_d z o (hg i j d e L H)⟩
  · exact no_out o
theorem snd_max2 (hc : X.calm = true) : Snd2c N X T (.builtin "max") (fun x y s => TT.opSem .max2 [x, y] s) :=
  snd_c2 (call_max2 hc) fun i j d e L H => by cases e; exact .int _
theorem snd_min2 (hc : X.calm = true) : Snd2c N X T (.builtin "min") (fun x y s => TT.opSem .min2 [x, y] s) :=
  snd_c2 (call_min2 hc) fun i j d e L H => by cases e; exact .int _
theorem snd_divmod : Snd2c N X T (.builtin "divmod") (fun x y s => TT.opSem .divmod [x, y] s) := by
  refine ⟨_, call_divmod, fun fz L H s x y wx wy Q er z rx ry o => ?_⟩
  simp only [TT.opSem] at o
  unfold TT.int2 at o
  split at o
  · rename_i i j
    dsimp only at o
    split at o
    · rename_i hc
      exact ⟨i, j, by rw [RepD.int_inv rx, RepD.int_inv ry], hc, fun p hp => fin_tup z o (.cons (.int _) (.cons (.int _) .nil)) hp⟩
    · exact no_out o
  · exact no_out o
/-- isinstance(x, tuple) -/
theorem snd_isTup {fz : Bool} {L : Loc} {H : Hp} {s : Sto} {x : L2.V} {wx : W} {Q : VK} {er : Nat → Hp → Prop} (z : RelS N X.K T L H s) (rx : RepW N X.K L H x wx)
    (o : Out N X.K T L H (okW N X.K Q) er ((TT.opSem .isTup [wx] s).bind (TT.fin fz))) : rIsi X.K [x, .ty "tuple"] H Q := by
  simp only [TT.opSem] at o
  unfold TT.isTupS at o
  split at o
  · obtain ⟨a, xs, rfl, h, t⟩ := RepD.tup_inv rx
    exact ⟨_, _, .type "tuple", .type "tuple", true, rfl, .ty _, .base (.tup h.2), kit_ty (by decide +kernel), fin_bl z o⟩
  · rw [RepD.int_inv rx]
    exact ⟨_, _, .type "int", .type "tuple", false, rfl, .ty _, .base (.int _), kit_ty (by decide +kernel), fin_bl z o⟩
  · exact no_out o
/-! ### methods of lists -/
theorem loc_lst {L : Loc} {H : Hp} {s : Sto} {l : Nat} {ds : List D} {v : L2.V} (z : RelS N X.K T L H s) (r : RepW N X.K L H v (.loc l)) (h : s[l]? = some (.lst ds)) :
    ∃ a xs, v = .ref a ∧ L[l]? = some (some a) ∧ H a = some (.lst xs) ∧ RepDs N X.K L H xs ds := by
  obtain ⟨a, e, rfl⟩ := r
  obtain ⟨b, f, _, m⟩ := z.loc h (fun q => nomatch q)
  rw [e] at f; cases f
  cases m with
  | lst e' r => exact ⟨a, _, rfl, e, e', r⟩
theorem rep1 {L : Loc} {H : Hp} {xs : List L2.V} {w : W} (r : RepWs N X.K L H xs [w]) : ∃ x, xs = [x] ∧ RepW N X.K L H x w := by
  cases r with
  | cons r t => cases t; exact ⟨_, rfl, r⟩
theorem rep0 {L : Loc} {H : Hp} {xs : List L2.V} (r : RepWs N X.K L H xs []) : xs = [] := by cases r; rfl
/-- a list of the store is written, a value comes back -/
theorem fin_set {L : Loc} {H : Hp} {s : Sto} {l : Nat} {a : Addr} {xs : List L2.V} {ds : List D} {d : D} {v : L2.V} {Q : VK} {er : Nat → Hp → Prop} {fz : Bool} (z : RelS N X.K T L H s) (e : L[l]? = some (some a)) (r : RepDs N X.K L H xs ds) (rv : RepD N X.K L H v d)
    (o : Out N X.K T L H (okW N X.K Q) er ((TT.d1 d (s.set l (.lst ds))).bind (TT.fin fz))) : Q v (upd H a (.lst xs)) := by
  have o' : Out N X.K T L H (okW N X.K Q) er (.ok (.d d) (s.set l (.lst ds))) := o
  have m : some a ∈ L := List.mem_of_getElem? e
  have k := (Pst.write (H := H) (o := .lst xs) m).keeps
  exact o' L _ (Pst.write m) (z.write e (show isMut (.lst xs) from trivial) (.lst upd_same (r.keeps k))) v (rv.keeps k)
theorem snd_append : SndM N X T "list.append" (fun x ws s => TT.opSem .append (x :: ws) s) := by
  refine ⟨_, mt_append, fun fz L H s x xs wx ws Q er z rx rs o => ?_⟩
  rcases ws with _ | ⟨w, _ | ⟨_, _⟩⟩ <;> simp only [TT.opSem] at o
  · exact no_out o
  · unfold TT.appS at o
    split at o
    · split at o
      · rename_i ds e
        split at o
        · rename_i hs
          have h1 := small_le hs
          obtain ⟨y, rfl, ry⟩ := rep1 rs
          obtain ⟨a, ys, rfl, e1, e2, r⟩ := loc_lst z rx e
          have l1 := r.len
          exact ⟨a, ys, y, rfl, rfl, e2, by rw [sizeLine_eq]; omega, fin_set z e1 (r.app (.cons ry .nil)) .non o⟩
        · exact no_out o
      · exact no_out o
    · exact no_out o
  · exact no_out o
theorem snd_pop : SndM N X T "list.pop" (fun x ws s => TT.opSem .pop (x :: ws) s) := by
  refine ⟨_, mt_pop, fun fz L H s x xs wx ws Q er z rx rs o => ?_⟩
  rcases ws with _ | ⟨w, _ | ⟨_, _⟩⟩ <;> simp only [TT.opSem] at o
  · unfold TT.popS at o
    split at o
    · split at o
      · rename_i ds e
        cases e3 : ds.getLast? with
        | none => rw [e3] at o; exact no_out o
        | some d =>
          rw [e3] at o
          obtain ⟨a, ys, rfl, e1, e2, r⟩ := loc_lst z rx e
          rw [rep0 rs]
          obtain ⟨v, h1, h2⟩ := r.get (i := ds.length - 1) (d := d) (by rw [← List.getLast?_eq_getElem?]; exact e3)
          exact ⟨a, ys, v, rfl, rfl, e2, by rw [r.len]; exact h1, fin_set z e1 r.dropLast h2 o⟩
      · exact no_out o
    · exact no_out o
  · exact no_out o
  · exact no_out o
theorem snd_extend : SndM N X T "list.extend" (fun x ws s => TT.opSem .extend (x :: ws) s) := by
  refine ⟨_, mt_extend, fun fz L H s x xs wx ws Q er z rx rs o => ?_⟩
  rcases ws with _ | ⟨w, _ | ⟨_, _⟩⟩ <;> simp only [TT.opSem] at o
  · exact no_out o
  · unfold TT.extS at o
    split at o
    · rename_i l es e0
      split at o
      · rename_i ds e
        split at o
        · rename_i hs
          rw [Bool.and_eq_true] at hs
          have h1 := small_le hs.1
          have h2 := small_le hs.2
          obtain ⟨y, rfl, ry⟩ := rep1 rs
          obtain ⟨a, ys, rfl, e1, e2, r⟩ := loc_lst z rx e
          obtain ⟨b, us, rfl, e3, r'⟩ := lstM_rep z ry e0
          have l1 := r.len
          have l2 := r'.len
          exact ⟨a, b, ys, us, rfl, rfl, e2, e3, by rw [sizeLine_eq]; omega, fin_set z e1 (r.app r') .non o⟩
        · exact no_out o
      · exact no_out o
    · exact no_out o
  · exact no_out o
theorem flat_rep {L : Loc} {H : Hp} {v : L2.V} {d : D} (r : RepD N X.K L H v d) (h : TT.flat d = true) : flatV v = true := by
  cases r <;> simp [TT.flat, flatV] at h ⊢
theorem flats_rep {L : Loc} {H : Hp} : ∀ {vs : List L2.V} {ds : List D}, RepDs N X.K L H vs ds → ds.all TT.flat = true → vs.all flatV = true
  | _, _, .nil, _ => rfl
  | _, _, .cons r t, h => by
    simp only [List.all_cons, Bool.and_eq_true] at h ⊢
    exact ⟨flat_rep r h.1, flats_rep t h.2⟩
theorem eqV_rep {L : Loc} {H : Hp} {b : Bool} {n m : Nat} {u v : L2.V} {d e : D} (r : RepD N X.K L H u d) (q : RepD N X.K L H v e) (hd : TT.flat d = true) (he : TT.flat e = true) (pd : TT.D.pl b n d = true) (pe : TT.D.pl b m e = true) : eqV u v = decide (d = e) := by
  cases r <;> first | (simp [TT.flat] at hd; done) | skip
  all_goals cases q <;> first | (simp [TT.flat] at he; done) | skip
  all_goals simp [eqV]
  all_goals (cases b <;> simp [TT.D.pl] at pd pe)
  all_goals rfl
theorem pl_all {b : Bool} {n : Nat} : ∀ {ds : List D} {d : D}, TT.Ds.pl b n ds = true → d ∈ ds → TT.D.pl b n d = true
  | e :: ds, d, h, m => by
    simp only [TT.Ds.pl, Bool.and_eq_true] at h
    rcases List.mem_cons.mp m with rfl | m
    · exact h.1
    · exact pl_all h.2 m
theorem idx_at {d : D} : ∀ {ds : List D}, d ∈ ds → ds[ds.idxOf d]? = some d ∧ ∀ m, m < ds.idxOf d → ∀ e, ds[m]? = some e → e ≠ d
  | e :: ds, h => by
    rw [List.idxOf_cons]
    by_cases q : e = d
    · subst q
      simp
    · rcases List.mem_cons.mp h with rfl | h
      · exact absurd rfl q
      · obtain ⟨h1, h2⟩ := idx_at h
        have b : (e == d) = false := beq_eq_false_iff_ne.mpr q
        rw [b]
        refine ⟨by simpa using h1, fun m hm e' he' => ?_⟩
        cases m with
        | zero =>
          simp at he'
          rw [← he']
          exact q
        | succ m => exact h2 m (by simpa using hm) e' (by simpa using he')
/-- l.count(x) of plain things -/
def rCntV (K : PySem.W.Frag) : V → List V → Hp → VK → Prop := fun x xs H Q => ∃ (a : Addr) (ys : List V) (y : V), x = .ref a ∧ xs = [y] ∧ SqL K H a ys ∧ flatV y = true ∧ ys.all flatV = true ∧ Q (.int (ys.countP (fun z => eqV z y) : Nat)) H
theorem cnt_eqU {y : V} : ∀ {ys : List V} {us : List Value}, Vals ys us → ys.all flatV = true → us.countP (eqU y) = ys.countP fun z => eqV z y
  | _, _, .nil, _ => rfl
  | _, _, .cons r t, f => by
    rw [List.all_cons, Bool.and_eq_true] at f
    rw [List.countP_cons, List.countP_cons, cnt_eqU t f.2, eqU_of r f.1]
theorem mt_cntV {X : Cx} : MtR X "list.count" (rCntV X.K) := by
  intro pins s σ H x xs v us Q I rx rxs h
  obtain ⟨a, ys, y, rfl, rfl, hs, fy, fys, q⟩ := h
  cases rx
  cases rxs with
  | cons ry rt =>
    rename_i uy ut
    cases rt
    obtain ⟨its, rv, ⟨⟨cls, dd, data, sl⟩, n, ho, hc, hdn, hd⟩, hlen⟩ := I.list hs
    simp only at hc hd
    subst hc hd
    refine call_meets PySem.F.slot_list_count ⟨_, ho, rfl⟩ PySem.F.entry_list_count (PySem.F.args_list_count_2 _ _) (SeqAt.list_countAt a its.toArray n dd sl uy (eqU y)) ⟨ho, fun u hu => mem_eqAt ry fy rv fys u (by simpa using hu), ?_⟩
    have ec : its.toArray.toList.countP (eqU y) = ys.countP fun z => eqV z y := cnt_eqU rv fys
    refine ⟨.int (ys.countP (fun z => eqV z y) : Nat), H, I.tok _, ⟨s.toks, ?_⟩, q⟩
    show Value.int ((its.toArray.toList.countP (eqU y) : Nat) : Int) s.toks = _
    rw [ec]
theorem cnt_rep {y : V} {d : D} (ry : RepD N X.K L H y d) (fd : TT.flat d = true) (b : Bool) (pd : TT.D.pl b 12 d = true) : ∀ {ys : List V} {ds : List D}, RepDs N X.K L H ys ds → ds.all TT.flat = true → TT.Ds.pl b 12 ds = true → (ys.countP fun z => eqV z y) = ds.countP fun z => decide (z = d)
  | _, _, .nil, _, _ => rfl
  | _, _, .cons r t, f, p => by
    rw [List.all_cons, Bool.and_eq_true] at f
    simp only [TT.Ds.pl, Bool.and_eq_true] at p
    rw [List.countP_cons, List.countP_cons, cnt_rep ry fd b pd t f.2 p.2, eqV_rep r ry f.1 fd p.1 pd]
theorem snd_count : SndM N X T "list.count" (fun x ws s => TT.opSem .count (x :: ws) s) := by
  refine ⟨_, mt_cntV, fun fz L H s x xs wx ws Q er z rx rs o => ?_⟩
  rcases ws with _ | ⟨w, _ | ⟨_, _⟩⟩ <;> simp only [TT.opSem] at o
  · exact no_out o
  · unfold TT.countS at o
    split at o
    · rename_i ds d e
      split at o
      · rename_i hc
        simp only [Bool.and_eq_true] at hc
        obtain ⟨⟨h1, h3⟩, h4⟩ := hc
        obtain ⟨b, hb⟩ := Option.isSome_iff_exists.mp h1
        obtain ⟨_, q, p1, p2⟩ := pyIn_ex hb
        obtain ⟨y, rfl, ry⟩ := rep1 rs
        obtain ⟨a, ys, rfl, hs, r⟩ := lstOf_rep z rx e
        refine ⟨a, ys, y, rfl, rfl, hs, flat_rep ry h3, flats_rep r h4, ?_⟩
        rw [cnt_rep ry h3 _ p1 r h4 p2]
        exact fin_int z o
      · exact no_out o
    · exact no_out o
  · exact no_out o
end
end TS

set_option maxRecDepth 100000
/-! An instance held against a text. -/
namespace TS
open PySem PySem.Spec PyProof.Rows L2 PySem.SeqAt
open MeetsSeq MeetsSeq2 MeetsSeq3 SeqRoads2
open AutoSeq1 (wpAny_loadPart')
/-- a class whose == is object's, of things that are no texts -/
structure OEq (K : PySem.W.Frag) (C : Addr) : Prop where
  obj : PySem.W.mroIn K C (.type "object") = some true
  eq : PySem.W.findIn K (.ref C) "__eq__" = some (some (.builtin "object.__eq__"))
  ne : PySem.W.findIn K (.ref C) "__ne__" = some (some (.builtin "object.__ne__"))
theorem oeq_of {K : PySem.W.Frag} {C : Addr} (h : oeqB K C = true) : OEq K C := by
  unfold oeqB at h
  simp only [Bool.and_eq_true, decide_eq_true_eq] at h
  exact ⟨h.1, h.2.1, h.2.2⟩
section
variable {M : Model} {prog : Program} {w : World} {A : Around} {E : Value → Shared → Prop} {s : Shared} {K : PySem.W.Frag} {x C : Addr} {ox : Obj} {od : Option Obj}
theorem isSame_str {R : Bool → Shared → Prop} {z : Str} {t : Tok} (h : R false s) : wpAny M A (isSame (.ref x) (.str z t)) R E s := wpAny_of_eq (rfl : isSame (.ref x) (.str z t) = pure false) h
theorem entry_str {Q : Fin → Shared → Prop} {z : Str} {t : Tok} (hq : Q (.done (.ret .notImplemented)) s) : wpAny M A (Builtin.«object.__eq__» ⟨[.ref x, .str z t], []⟩) Q E s := by
  unfold Builtin.«object.__eq__»
  repeat (first | with_reducible refine isSame_str ?_ | wp_step)
  exact hq
theorem call_objEqS {Q : Value → Shared → Prop} {z : Str} {t : Tok} (X : K.In s.heap) (I : PySem.W.InstAt s.heap x ox C od) (hm : PySem.W.mroIn K C (.type "object") = some true) (hq : Q .notImplemented s) :
    wpAny (model prog w) A (call (.builtin "object.__eq__") [.ref x, .str z t]) Q E s :=
  wpAny_call (codeAny_call_builtin F.cmp_object.eq.plain F.cmpEntry_eq (PySem.W.check_slot F.cmpKind_eq F.cmpSplit_eq (I.type.andThen (PySem.W.looks_mroIn X hm)) (F.cmpArgs_eq _ _) (entry_str hq)))
theorem sub_strC : PySem.W.subIn K (.type "str") (.ref C) = some false := by
  have e : fastBuiltinMro "str" = some [.type "str", .type "object"] := by decide +kernel
  show (fastBuiltinMro "str").map (·.contains (.ref C)) = some false
  rw [e]
  first
    | rfl
    | simp
theorem str_eq_ins (b : Str) (u : Tok) (l : Addr) (c : Value) (dd : Option Addr) (sl : Array (Option Value)) :
    Meets (Builtin.«str.__eq__» ⟨[.str b u, .ref l], []⟩) (fun _ R s => s.heap.get? l = some { cls := c, dict := dd, data := .plain, slots := sl } ∧ R (.ok (.ret .notImplemented)) s) :=
  .of_wp fun prog w A R s h => by obtain ⟨hp, g, d, tk, os⟩ := s; obtain ⟨hl, h⟩ := h; wp_walk using wpAny_loadPart' hl, wpAny_load hl; exact ⟨_, rfl, h⟩
theorem rc_str {z : Str} {t : Tok} {c : Value} {dd : Option Addr} {sl : Array (Option Value)} (hu : A.units < cLine) (X : K.In s.heap) (I : PySem.W.InstAt s.heap x ox C od) (ho : s.heap.get? x = some { cls := c, dict := dd, data := .plain, slots := sl }) (hm : PySem.W.mroIn K C (.type "object") = some true) (hs : PySem.W.findIn K (.ref C) "__eq__" = some (some (.builtin "object.__eq__"))) :
    RcAt A s (.ref x) (.str z t) false := fun prog w E Q h => by
  have one : wpAny (model prog w) A (tryCompare (.ref x) "__eq__" (.str z t)) (fun r s' => r = none ∧ s' = s) E s := by
    unfold tryCompare
    exact wpAny_bind (HN.ifBound_objEq X I hs (call_objEqS X I hm (wpAny_pure ⟨rfl, rfl⟩)))
  have two : wpAny (model prog w) A (tryCompare (.str z t) "__eq__" (.ref x)) (fun r s' => r = none ∧ s' = s) E s :=
    wpAny_tryCompare_declines (typeIs_str s z t) F.slot_str_eq_refl (call_meets F.slot_str_eq_refl (typeIs_str s z t) F.entry_str_eq (F.args_str_eq_2 _ _) (str_eq_ins z t x c dd sl) ⟨ho, rfl, rfl, rfl⟩)
  simp only [richCompare, cmpInfo_Eq, oneThing_ref]
  refine wpAny_holding (wpAny_bind (wpAny_cRoomFor hu ?_))
  refine wpAny_bind (I.type.here ?_)
  refine wpAny_bind (wpAny_typeOf (typeIs_str s z t) ?_)
  split
  · refine wpAny_bind ((PySem.W.looks_subIn X sub_strC).here ?_)
    simp only [Bool.false_eq_true, if_false, Bool.not_false, if_true]
    refine wpAny_bind (m := tryCompare (.ref x) _ (.str z t)) (wpAny_mono one (fun r s1 z => ?_) fun _ _ e => e)
    obtain ⟨z1, z2⟩ := z
    subst z1
    subst z2
    refine wpAny_bind (m := tryCompare (.str z t) _ (.ref x)) (wpAny_mono two (fun r s2 z => ?_) fun _ _ e => e)
    obtain ⟨z1, z2⟩ := z
    subst z1
    subst z2
    exact wpAny_bind (wpAny_rule (wpAny_bind (wpAny_of_eq (rfl : isSame (.ref x) (.str z t) = pure false) (wpAny_pure h))))
  · rename_i q
    exact absurd (by simp) q
end

def rEqU (K : PySem.W.Frag) : R2 := fun x y H Q => rEqP K false x y H Q ∨ ∃ a C dx fs z, x = .ref a ∧ H a = some (.ins C dx fs) ∧ OEq K C ∧ y = .str z ∧ Q (.bl false) H
section
variable {N : Nm} {X : Cx} {T : List (Addr × Str)}
theorem op_eqU (hu : X.A.units + 64 < cLine) : OpR X (compareOp .Eq) (rEqU X.K) := by
  intro pins s σ H x y v u Q I rx ry h
  rcases h with h | ⟨a, C, dx, fs, z, rfl, ha, o, rfl, q⟩
  · exact op_eqP hu pins s σ H x y v u Q I rx ry h
  · cases rx
    obtain ⟨t, rfl⟩ := ry
    obtain ⟨mA, O, _⟩ := ins_get I.hok ha
    obtain ⟨od, J, _⟩ := O.look
    have hu' : X.A.units < cLine := by omega
    have rc := rc_str (A := X.A) (z := z) (t := t) hu' I.kIn J O.obj o.obj o.eq
    exact rc X.prog X.w X.xe (EP X pins σ Q) ⟨.bl _, H, I, rfl, q⟩
theorem eqO_snd {fz : Bool} {L : Loc} {H : Hp} {s : Sto} {x y : L2.V} {wx wy : W} {Q : VK} {er : Nat → Hp → Prop} (hO : ∀ c, c < N.cs.length → OEq X.K (N.ca X.K c)) (z : RelS N X.K T L H s) (rx : RepW N X.K L H x wx) (ry : RepW N X.K L H y wy)
    (o : Out N X.K T L H (okW N X.K Q) er ((TT.eqS false wx wy s).bind (TT.fin fz))) : rEqU X.K x y H Q := by
  unfold TT.eqS at o
  split at o
  · rename_i a b e1 e2
    simp only [Bool.false_eq_true, if_false] at o
    unfold TT.pyEqO at o
    split at o
    · rename_i hf
      rw [Bool.or_eq_true] at hf
      rcases hf with hf | hf
      · left
        obtain ⟨q, h1, h2⟩ := fair_ex hf
        refine ⟨py a, py b, datOf_dp z rx e1 h1, datOf_dp z ry e2 h2, py_plain _ _ _ h1, py_plain _ _ _ h2, py_depth _ _ _ h1, ?_⟩
        rw [py_eqv q a 12 12 b h1 h2]
        exact fin_bl z o
      · right
        unfold TT.objStr at hf
        split at hf
        · rename_i c ks vs zz
          cases wx with
          | loc l =>
            simp only [TT.datOf] at e1
            split at e1 <;> cases e1
          | d d1 =>
            cases wy with
            | loc l =>
              simp only [TT.datOf] at e2
              split at e2 <;> cases e2
            | d d2 =>
              simp only [TT.datOf, Option.some.injEq] at e1 e2
              subst e1 e2
              cases rx with
              | obj hc n h e r =>
                refine ⟨_, _, _, _, zz, rfl, h, hO _ hc, RepD.str_inv ry, ?_⟩
                have := fin_bl z o
                simpa using this
        · cases hf
    · exact no_out o
  · exact no_out o
theorem snd_eq (hu : X.A.units + 64 < cLine) (hO : ∀ c, c < N.cs.length → OEq X.K (N.ca X.K c)) : Snd2 N X T (compareOp .Eq) (fun x y s => TT.opSem .eq [x, y] s) :=
  ⟨_, op_eqU hu, fun fz L H s x y wx wy Q er z rx ry o => eqO_snd hO z rx ry o⟩
end
end TS

set_option maxRecDepth 100000
/-! l.index(x) of numbers' tuples. -/
namespace TS
open PySem PySem.Spec PyProof.Rows L2
mutual
theorem py_lay : ∀ (d : D), TT.D.ns d = true → (py d).canLay0 = true
  | .non, _ => by simp only [py, PyData.canLay0]
  | .bl _, _ => by simp only [py, PyData.canLay0]
  | .int _, _ => by simp only [py, PyData.canLay0]
  | .str _, h => by simp [TT.D.ns] at h
  | .tup ds, h => by
    simp only [py, PyData.canLay0]
    exact pys_lay ds (by simpa [TT.D.ns] using h)
  | .lst ds, h => by
    simp only [py, PyData.canLay0]
    exact pys_lay ds (by simpa [TT.D.ns] using h)
  | .rol _, h => by simp [TT.D.ns] at h
  | .dct _ _ _, h => by simp [TT.D.ns] at h
  | .obj _ _ _, h => by simp [TT.D.ns] at h
theorem pys_lay : ∀ (ds : List D), TT.Ds.ns ds = true → PyData.canLayAll0 (pys ds) = true
  | [], _ => by simp only [pys, PyData.canLayAll0]
  | d :: ds, h => by
    simp only [TT.Ds.ns, Bool.and_eq_true] at h
    simp only [pys, PyData.canLayAll0, py_lay d h.1, pys_lay ds h.2, Bool.and_self]
end
theorem pys_get : ∀ (ds : List D) (i : Nat), (pys ds)[i]? = (ds[i]?).map py
  | [], i => by simp [pys]
  | d :: ds, 0 => by simp [pys]
  | d :: ds, i + 1 => by simpa [pys] using pys_get ds i
def rIndexU (K : PySem.W.Frag) : V → List V → Hp → VK → Prop := fun x xs H Q => rIndex K x xs H Q ∨ rIndexD K x xs H Q
section
variable {N : Nm} {X : Cx} {T : List (Addr × Str)}
theorem mt_indexU (hu : X.A.units + 65 < cLine) : MtR X "list.index" (rIndexU X.K) := by
  intro pins s σ H x xs v us Q I rx rxs h
  rcases h with h | h
  · exact mt_index pins s σ H x xs v us Q I rx rxs h
  · exact mt_indexD hu pins s σ H x xs v us Q I rx rxs h
theorem snd_indexU (hu : X.A.units + 65 < cLine) : SndM N X T "list.index" (fun x ws s => TT.opSem .index (x :: ws) s) := by
  refine ⟨_, mt_indexU hu, fun fz L H s x xs wx ws Q er z rx rs o => ?_⟩
  rcases ws with _ | ⟨w, _ | ⟨_, _⟩⟩ <;> simp only [TT.opSem] at o
  · exact no_out o
  · unfold TT.indexS at o
    split at o
    · rename_i ds d e
      split at o
      · rename_i hc
        simp only [Bool.and_eq_true, Bool.or_eq_true, decide_eq_true_eq] at hc
        obtain ⟨⟨h1, h2⟩, hc⟩ := hc
        obtain ⟨b, hb⟩ := Option.isSome_iff_exists.mp h1
        obtain ⟨_, q, p1, p2⟩ := pyIn_ex hb
        obtain ⟨y, rfl, ry⟩ := rep1 rs
        obtain ⟨a, ys, rfl, hs, r⟩ := lstOf_rep z rx e
        obtain ⟨i1, i2⟩ := idx_at h2
        obtain ⟨v, g1, g2⟩ := r.get i1
        rcases hc with ⟨h3, h4⟩ | ⟨h3, h4⟩
        · left
          refine ⟨a, ys, y, ds.idxOf d, v, rfl, rfl, hs, flat_rep ry h3, flats_rep r h4, g1, ?_, fun m z' hm hz => ?_, fin_int z o⟩
          · rw [eqV_rep g2 ry h3 h3 p1 p1]; simp
          · obtain ⟨e', k1, k2⟩ := r.get' hz
            have me := List.mem_of_getElem? k1
            rw [eqV_rep k2 ry (List.all_eq_true.mp h4 _ me) h3 (pl_all p2 me) p1]
            exact decide_eq_false (i2 m hm e' k1)
        · right
          refine ⟨a, y, py d, pys ds, ds.idxOf d, py d, rfl, rfl, .lst hs (RepDs.dp q 12 ds _ p2 r), RepD.dp q 12 d _ p1 ry, ?_, ?_, ?_, ?_, fun m z' hm hz => ?_, fin_int z o⟩
          · unfold SeqAt.shaped
            rw [Bool.and_eq_true, decide_eq_true_eq]
            refine ⟨by simp only [PyData.canLay0]; exact pys_lay ds h4, ?_⟩
            have := pys_depth q 12 ds p2
            simp only [PyData.depth]
            omega
          · unfold SeqAt.shaped
            rw [Bool.and_eq_true, decide_eq_true_eq]
            have := py_depth q 12 d p1
            exact ⟨py_lay d h3, by omega⟩
          · rw [pys_get, i1]; rfl
          · rw [py_eqv q d 12 12 d p1 p1]; simp
          · rw [pys_get] at hz
            cases k1 : ds[m]? with
            | none => rw [k1] at hz; cases hz
            | some e' =>
              rw [k1] at hz
              cases hz
              rw [py_eqv q e' 12 12 d (pl_all p2 (List.mem_of_getElem? k1)) p1]
              exact decide_eq_false (i2 m hm e' k1)
      · exact no_out o
    · exact no_out o
  · exact no_out o
end
end TS

set_option maxRecDepth 100000
/-! What is seen of a piece of syntax. -/
namespace TS
open PySem PySem.Spec PyProof.Rows L2
def noStar : Expr → Bool
  | .Starred _ _ => false
  | _ => true
theorem star1 {e : Expr} {es : List Expr} {env : Env} (h : noStar e = true) : starEach (e :: es) env = (false, eval e env) :: starEach es env := by
  cases e <;> first | rfl | cases h
theorem stars {env : Env} : ∀ {es : List Expr}, es.all noStar = true → ∀ p ∈ starEach es env, p.1 = false
  | [], _, p, hp => by cases hp
  | e :: es, h, p, hp => by
    simp only [List.all_cons, Bool.and_eq_true] at h
    rw [star1 h.1] at hp
    rcases List.mem_cons.mp hp with rfl | hp
    · rfl
    · exact stars h.2 p hp
theorem back_any {env : Env} {es : List Expr} {pos : Pos} (h : es.all noStar = true) : (backTo pos (starEach es env)).any (·.1) = false := by
  rw [List.any_eq_false]
  intro p hp
  unfold backTo at hp
  obtain ⟨q, hq, rfl⟩ := List.mem_map.mp hp
  have := stars h q hq
  simp [this]
theorem back_all {env : Env} {es : List Expr} {pos : Pos} (h : es.all noStar = true) : (backTo pos (starEach es env)).all (fun x => !x.1) = true := by
  rw [List.all_eq_true]
  intro p hp
  unfold backTo at hp
  obtain ⟨q, hq, rfl⟩ := List.mem_map.mp hp
  have := stars h q hq
  simp [this]
def noSlice : Expr → Bool
  | .Slice _ _ _ _ => false
  | _ => true
theorem plainIx {b : Expr} (h : noSlice b = true) : PlainIx b := by
  intro o i
  cases b <;> first | rfl | cases h
theorem noSl {b : Expr} (h : noSlice b = true) : NoSl b := plainIx h
def noCall : Expr → Bool
  | .Call (.Name _ _) [] [] _ => false
  | _ => true
theorem attr_base {o : Expr} {m : Str} {env : Env} (h : noCall o = true) : attributeBase o m env (eval o env) = eval o env := by
  unfold attributeBase
  split
  · cases h
  · rfl
def noComp : Expr → Bool
  | .ListComp _ _ _ _ => false
  | .SetComp _ _ _ _ => false
  | .DictComp _ _ _ _ _ => false
  | _ => true
theorem swaps_no {e : Expr} {t : Option Expr} {l : Nat} {env : Env} (h : noComp e = true) : swapsWith e t l env = pure false := by
  cases e <;> first | rfl | cases h
def noTup : Expr → Bool
  | .Tuple _ _ _ => false
  | _ => true
theorem stores_no {t e : Expr} {env : Env} (h : noTup e = true) : swappedStores [t] e env = pure none := by
  unfold swappedStores
  cases e <;> first | (cases t <;> rfl) | exact Bool.noConfusion h
/-- a name that is no plain local of the def: the stores go over a tuple -/
def cellT (sc : Scope) : Expr → Bool
  | .Tuple ts _ _ => ts.any fun
    | .Name x _ => !(sc.names.lookup x == some .local)
    | _ => true
  | _ => false
theorem fm_lt {α β : Type} (f : α → Option β) (p : α → Bool) (hp : ∀ x, p x = true → f x = none) : ∀ l : List α, l.any p = true → (l.filterMap f).length < l.length
  | [], h => by simp at h
  | x :: l, h => by
    simp only [List.any_cons, Bool.or_eq_true] at h
    rcases h with h | h
    · rw [List.filterMap_cons_none (hp x h)]
      exact Nat.lt_succ_of_le (List.length_filterMap_le f l)
    · have := fm_lt f p hp l h
      rw [List.filterMap_cons]
      split
      · exact Nat.lt_succ_of_lt this
      · exact Nat.succ_lt_succ this
theorem stores_cell {t e : Expr} {env : Env} (h : cellT env.scope t = true) : swappedStores [t] e env = pure none := by
  cases t <;> first | (cases h; done) | skip
  rename_i ts k p
  unfold swappedStores
  cases e <;> first | rfl | skip
  rename_i vs k2 p2
  simp only
  split
  · rfl
  · split
    · rfl
    · have hl := fm_lt (fun x : Expr => match x with
        | .Name id pos => if env.kindOf id == some .local && pos.line == (ts.head?.map (·.pos.line)).getD 0 then some id else none
        | _ => none) (fun x : Expr => match x with
        | .Name x _ => !(env.scope.names.lookup x == some .local)
        | _ => true) (fun x hx => by
          cases x <;> first | rfl | skip
          rename_i id pos
          simp only [Bool.not_eq_true'] at hx
          have : (env.kindOf id == some NameKind.local) = false := hx
          simp only [this, Bool.false_and, Bool.false_eq_true, if_false]) ts h
      rw [if_pos]
      simp only [Bool.or_eq_true, bne_iff_ne, ne_eq]
      exact .inl (Nat.ne_of_lt hl)
def noSet : Expr → Bool
  | .Set _ _ _ => false
  | _ => true
theorem folded_no {e : Expr} {env : Env} (h : noSet e = true) (x : Value) : foldedSetIterable e env x = pure x := by
  cases e <;> first | rfl | cases h
theorem marks_no {b : Expr} {op : CmpOp} (h : noSet b = true) : behindInMarks op b = false := by
  cases b <;> first | rfl | cases h
def plainTest : Expr → Bool
  | .UnaryOp .Not _ _ => false
  | .BoolOp _ _ _ => false
  | .IfExp _ _ _ _ => false
  | .Compare _ _ _ _ => false
  | _ => true
theorem test_plain {e : Expr} {env : Env} (h : plainTest e = true) (whole : Sem Value) : isTrue e env whole = (do let v ← whole; standAt e.pos; holding [v] (truthy v)) := by
  cases e <;> first | rfl | (cases h; done) | skip
  rename_i op a pos
  cases op <;> first | rfl | cases h
/-- a method call on one line, few arguments -/
theorem meth_form {o : Expr} {m : Str} {apos pos : Pos} {es : List Expr} {env : Env} (h1 : noCall o = true) (h2 : es.all noStar = true) (h3 : es.length < 29) (h4 : (apos.endLine == pos.line) = true) :
    eval (.Call (.Attribute o m apos) es [] pos) env = (do
      let ov ← eval o env
      standAt apos.atName
      let (f, first) ← holding [ov] (getMethod ov m (plainOf o env))
      callWith pos f first (backTo pos (starEach es env)) (backToKw pos (keywordEach [] env))) := by
  show (do
    let ov ← attributeBase o m env (eval o env)
    standAt apos.atName
    methodCall o m apos pos env ov (es.length + 0) (backTo pos (starEach es env)) (backToKw pos (keywordEach [] env))) = _
  rw [attr_base h1]
  congr 1
  funext ov
  congr 1
  funext _
  refine mcall_line ?_ h4
  unfold methodCallForm
  rw [back_all h2]
  simp [backToKw, keywordEach]
  omega
end TS

set_option maxRecDepth 100000
/-! Expressions: what the small language says of them holds of the program's text. -/
namespace TS
open PySem PySem.Spec PyProof.Rows L2
abbrev Wx0 : WX := fun _ _ _ _ => False
def cE (N : Nm) (K : PySem.W.Frag) (T : List (Addr × Str)) (Wx : WX) (f : TT.Env → Sto → TT.R W) : TE := fun σ H Q =>
  ∃ (L : Loc) (e : TT.Env) (s : Sto), RelE N K L H σ e ∧ RelS N K T L H s ∧ Out N K T L H (okW N K Q) (fun c H' => Wx (.ref (N.ea K c)) none σ H') (f e s)
def cA (N : Nm) (K : PySem.W.Frag) (T : List (Addr × Str)) (Wx : WX) (f : TT.Env → Sto → TT.R (List W)) : TA := fun σ H Q =>
  ∃ (L : Loc) (e : TT.Env) (s : Sto), RelE N K L H σ e ∧ RelS N K T L H s ∧ Out N K T L H (fun ws L' H' _ => ∀ vs, RepWs N K L' H' vs ws → Q vs H') (fun c H' => Wx (.ref (N.ea K c)) none σ H') (f e s)
def cT (N : Nm) (K : PySem.W.Frag) (T : List (Addr × Str)) (Wx : WX) (f : TT.Env → Sto → TT.R Bool) : TT := fun σ H Q =>
  ∃ (L : Loc) (e : TT.Env) (s : Sto), RelE N K L H σ e ∧ RelS N K T L H s ∧ Out N K T L H (fun b _ H' _ => Q b H') (fun c H' => Wx (.ref (N.ea K c)) none σ H') (f e s)
def asT (f : TT.Env → Sto → TT.R W) : TT.Env → Sto → TT.R Bool := fun e s => (f e s).bind fun w s => TT.R.of (TT.asB w) s
theorem PEw {X : Cx} {e : Expr} {t t' : TE} (h : PE X e t) (w : ∀ σ H Q, t' σ H Q → t σ H Q) : PE X e t' := ⟨fun pins s σ H Q I q => h.run pins s σ H Q I (w σ H Q q)⟩
theorem PTw {X : Cx} {e : Expr} {t t' : TT} (h : PT X e t) (w : ∀ σ H Q, t' σ H Q → t σ H Q) : PT X e t' := ⟨fun pins s σ H Q I q => h.run pins s σ H Q I (w σ H Q q)⟩
theorem PWw {X : Cx} {e : Expr} {t t' : TT} (h : PW X e t) (w : ∀ σ H Q, t' σ H Q → t σ H Q) : PW X e t' := ⟨fun wh pins s σ H Q I q => h.run wh pins s σ H Q I (w σ H Q q)⟩
theorem PAw {X : Cx} {es : List Expr} {t t' : TA} (h : PA X es t) (w : ∀ σ H Q, t' σ H Q → t σ H Q) : PA X es t' := ⟨fun pos pins s σ H Q I q => h.run pos pins s σ H Q I (w σ H Q q)⟩
section
variable {N : Nm} {X : Cx} {T : List (Addr × Str)} {Wx : WX} {f g h : TT.Env → Sto → TT.R W} {a b d : Expr} {pos : Pos}
/-- one piece, then more -/
theorem cE_then {K : PySem.W.Frag} {σ : L2.St} {H : Hp} {L : Loc} {e : TT.Env} {s : Sto} {α : Type} {ok : α → Loc → Hp → Sto → Prop} {k : W → Sto → TT.R α} {Q : VK} (re : RelE N K L H σ e) (rs : RelS N K T L H s)
    (o : Out N K T L H ok (fun c H' => Wx (.ref (N.ea K c)) none σ H') ((f e s).bind k))
    (q : ∀ w L' H' s' v, Pst L L' H H' → RelE N K L' H' σ e → RelS N K T L' H' s' → RepW N K L' H' v w → Out N K T L' H' ok (fun c H' => Wx (.ref (N.ea K c)) none σ H') (k w s') → Q v H') : cE N K T Wx f σ H Q :=
  ⟨L, e, s, re, rs, (Out.bind o).mono (fun w L' H' s' p z o' v rv => q w L' H' s' v p (re.pst p) z rv o') fun _ _ x => x⟩
theorem pe_v {i : Nat} {x : Str} (hN : X.N[i]? = some x) (hv : Vis X.env.scope x) (hd : (x == ("__debug__" : Str)) = false) (hcd : (x == ("__classdict__" : Str)) = false) (c : TT.Cxt) :
    PE X (.Name x pos) (cE N X.K T Wx (TT.evE c (.v i))) :=
  PEw (pe_var hN hv hd hcd) fun σ H Q ⟨L, e, s, re, rs, o⟩ => by
    simp only [TT.evE] at o
    split at o
    · rename_i w hw
      obtain ⟨v, h1, h2⟩ := re.at_ i w hw
      exact ⟨v, h1, o.here rs v h2⟩
    · exact False.elim o
/-- constants -/
inductive IsK : TT.D → Const → Prop
  | non : IsK .non .none
  | bl (b : Bool) : IsK (.bl b) (.bool b)
  | int (i : Int) : IsK (.int i) (.int i)
  | str (x : Str) : IsK (.str x) (.str x)
theorem pe_k {x : TT.D} {k : Const} {j : Nat} (h : IsK x k) (c : TT.Cxt) : PE X (.Constant k j pos) (cE N X.K T Wx (TT.evE c (.k x))) := by
  cases h with
  | non => exact PEw pe_non fun σ H Q ⟨L, e, s, re, rs, o⟩ => o.here rs _ .non
  | bl b => exact PEw pe_bl fun σ H Q ⟨L, e, s, re, rs, o⟩ => o.here rs _ (.bl b)
  | int i => exact PEw pe_int fun σ H Q ⟨L, e, s, re, rs, o⟩ => o.here rs _ (.int i)
  | str x => exact PEw pe_str fun σ H Q ⟨L, e, s, re, rs, o⟩ => o.here rs _ (.str x)
/-- a constant of the module -/
theorem pe_g {x : Str} {v : L2.V} {u : Value} {y : TT.D} {n : Nat} (hg : Gl X x) (hm : X.mg x = some u) (r : RelV v u) (hd : (x == ("__debug__" : Str)) = false) (q : ∀ L H, RepD N X.K L H v y) (c : TT.Cxt) :
    PE X (.Name x pos) (cE N X.K T Wx (TT.evE c (.g n y))) :=
  PEw (pe_glob hg hm r hd) fun σ H Q ⟨L, e, s, re, rs, o⟩ => o.here rs _ (q L H)
/-! ### operators -/
abbrev two (f g : TT.Env → Sto → TT.R W) (k : W → W → Sto → TT.R TT.Vl) (fz : Bool) : TT.Env → Sto → TT.R W := fun e s => (f e s).bind fun x s => (g e s).bind fun y s => (k x y s).bind (TT.fin fz)
theorem two_then {K : PySem.W.Frag} {r : R2} {fz : Bool} {k : W → W → Sto → TT.R TT.Vl}
    (hr : ∀ (fz : Bool) (L : Loc) (H : Hp) (s : Sto) (x y : L2.V) (wx wy : W) (Q : VK) (er : Nat → Hp → Prop), RelS N K T L H s → RepW N K L H x wx → RepW N K L H y wy → Out N K T L H (okW N K Q) er ((k wx wy s).bind (TT.fin fz)) → r x y H Q)
    (σ : L2.St) (H : Hp) (Q : VK) (o : cE N K T Wx (two f g k fz) σ H Q) : tOp r (cE N K T Wx f) (cE N K T Wx g) σ H Q := by
  obtain ⟨L, e, s, re, rs, o⟩ := o
  exact cE_then re rs o fun w L1 H1 s1 v p1 re1 rs1 rv o1 => cE_then re1 rs1 o1 fun u L2 H2 s2 y p2 re2 rs2 ru o2 => hr fz L2 H2 s2 v y w u Q _ rs2 (rv.pst p2) ru o2
theorem pe_bin {op : Operator} {fz : Bool} {k : W → W → Sto → TT.R TT.Vl} (hk : Snd2 N X T (binaryOp op) k) (ha : PE X a (cE N X.K T Wx f)) (hb : PE X b (cE N X.K T Wx g)) : PE X (.BinOp a op b pos) (cE N X.K T Wx (two f g k fz)) := by
  obtain ⟨r, ho, hr⟩ := hk
  exact PEw (pe_op ho ha hb) (two_then hr)
theorem pe_cp {op : CmpOp} {fz : Bool} {k : W → W → Sto → TT.R TT.Vl} (hk : Snd2 N X T (compareOp op) k) (ha : PE X a (cE N X.K T Wx f)) (hb : PE X b (cE N X.K T Wx g)) (hm : behindInMarks op b = false) :
    PE X (.Compare a [op] [b] pos) (cE N X.K T Wx (two f g k fz)) := by
  obtain ⟨r, ho, hr⟩ := hk
  exact PEw (pe_cmpR ho ha hb hm) (two_then hr)
theorem pe_item {fz : Bool} {k : W → W → Sto → TT.R TT.Vl} (hk : SndI N X T k) (ha : PE X a (cE N X.K T Wx f)) (hb : PE X b (cE N X.K T Wx g)) (hs : noSlice b = true) : PE X (.Subscript a b pos) (cE N X.K T Wx (two f g k fz)) := by
  obtain ⟨r, ho, hr⟩ := hk
  exact PEw (pe_ix ho ha hb (plainIx hs)) (two_then hr)
abbrev one (f : TT.Env → Sto → TT.R W) (k : W → Sto → TT.R TT.Vl) (fz : Bool) : TT.Env → Sto → TT.R W := fun e s => (f e s).bind fun x s => (k x s).bind (TT.fin fz)
theorem pe_neg {fz : Bool} (ha : PE X a (cE N X.K T Wx f)) : PE X (.UnaryOp .USub a pos) (cE N X.K T Wx (one f (fun x s => TT.opSem .neg [x] s) fz)) :=
  PEw (pe_un un_neg ha) fun σ H Q ⟨L, e, s, re, rs, o⟩ => cE_then re rs o fun w L1 H1 s1 v p1 re1 rs1 rv o1 => by
    simp only [TT.opSem] at o1
    unfold TT.negS at o1
    split at o1
    · exact ⟨_, RepD.int_inv rv, fin_int rs1 o1⟩
    · exact no_out o1
/-! ### argument lists -/
theorem pa_n (c : TT.Cxt) : PA X [] (cA N X.K T Wx (TT.evEs c .nil)) := PAw pa_nil fun σ H Q ⟨L, e, s, re, rs, o⟩ => o.here rs _ .nil
theorem pa_c {x : TT.E} {xs : TT.Es} {es : List Expr} (c : TT.Cxt) (ha : PE X a (cE N X.K T Wx (TT.evE c x))) (hr : PA X es (cA N X.K T Wx (TT.evEs c xs))) (hs : noStar a = true) : PA X (a :: es) (cA N X.K T Wx (TT.evEs c (.cons x xs))) :=
  PAw (pa_cons ha hr (star1 hs)) fun σ H Q ⟨L, e, s, re, rs, o⟩ => by
    simp only [TT.evEs] at o
    refine cE_then re rs o fun w L1 H1 s1 v p1 re1 rs1 rv o1 => ⟨L1, e, s1, re1, rs1, (Out.bind o1).mono (fun ws L2 H2 s2 p2 rs2 o2 vs rvs => ?_) fun _ _ x => x⟩
    exact o2.here rs2 (v :: vs) (.cons (rv.pst p2) rvs)
theorem evEs_len (c : TT.Cxt) : ∀ (es : TT.Es) (e : TT.Env) (s : Sto) (ws : List W) (s' : Sto), TT.evEs c es e s = .ok ws s' → ws.length = es.len
  | .nil, e, s, ws, s', h => by
    simp only [TT.evEs, TT.R.ok.injEq] at h
    rw [← h.1]; rfl
  | .cons a r, e, s, ws, s', h => by
    simp only [TT.evEs] at h
    cases h1 : TT.evE c a e s with
    | ok w s1 =>
      rw [h1] at h
      simp only [TT.R.bind_ok] at h
      cases h2 : TT.evEs c r e s1 with
      | ok vs s2 =>
        rw [h2] at h
        simp only [TT.R.bind_ok, TT.R.ok.injEq] at h
        rw [← h.1]
        simp [TT.Es.len, evEs_len c r e s1 vs s2 h2]
      | err _ _ => rw [h2] at h; simp at h
      | no => rw [h2] at h; simp at h
    | err _ _ => rw [h1] at h; simp at h
    | no => rw [h1] at h; simp at h
theorem ev_op1 (c : TT.Cxt) (fz : Bool) (o : TT.Op) (a : TT.E) : TT.evE c (.op fz o (.cons a .nil)) = one (TT.evE c a) (fun x s => TT.opSem o [x] s) fz := by
  funext e s
  show ((TT.evEs c (.cons a .nil) e s).bind fun ws s => (TT.opSem o ws s).bind fun v s => TT.fin fz v s) = (TT.evE c a e s).bind fun x s => (TT.opSem o [x] s).bind (TT.fin fz)
  simp only [TT.evEs]
  cases TT.evE c a e s <;> rfl
theorem ev_op2 (c : TT.Cxt) (fz : Bool) (o : TT.Op) (a b : TT.E) : TT.evE c (.op fz o (.cons a (.cons b .nil))) = two (TT.evE c a) (TT.evE c b) (fun x y s => TT.opSem o [x, y] s) fz := by
  funext e s
  show ((TT.evEs c (.cons a (.cons b .nil)) e s).bind fun ws s => (TT.opSem o ws s).bind fun v s => TT.fin fz v s) = (TT.evE c a e s).bind fun x s => (TT.evE c b e s).bind fun y s => (TT.opSem o [x, y] s).bind (TT.fin fz)
  simp only [TT.evEs]
  cases TT.evE c a e s with
  | ok w s1 =>
    simp only [TT.R.bind_ok]
    cases TT.evE c b e s1 <;> rfl
  | err _ _ => rfl
  | no => rfl
/-! ### calls of built-ins -/
/-- a built-in's name, as the module and the def see it -/
structure Blt (X : Cx) (x : Str) (v : Value) : Prop where
  gl : Gl X x
  no : X.mg x = none
  at_ : bootBuiltins x = some v
  n1 : x ≠ "__name__"
  n2 : (x == ("__debug__" : Str)) = false
theorem pe_b1 {x : Str} {q : String} {p : Pos} {fz : Bool} {k : W → Sto → TT.R TT.Vl} (hb : Blt X x (.builtin q)) (hk : Snd1c N X T (.builtin q) k) (ha : PE X a (cE N X.K T Wx f)) (hs : noStar a = true) :
    PE X (.Call (.Name x p) [a] [] pos) (cE N X.K T Wx (one f k fz)) := by
  obtain ⟨r, hc, hr⟩ := hk
  refine PEw (pe_callB hc hb.gl hb.no hb.at_ (pa_cons ha pa_nil (star1 hs)) hb.n1 hb.n2 (star1 hs) (back_any (es := []) rfl)) fun σ H Q ⟨L, e, s, re, rs, o⟩ => ?_
  exact cE_then re rs o fun w L1 H1 s1 v p1 re1 rs1 rv o1 => hr fz L1 H1 s1 v w Q _ rs1 rv o1
theorem pe_t1 {x : Str} {q : String} {p : Pos} {fz : Bool} {k : W → Sto → TT.R TT.Vl} (hb : Blt X x (.type q)) (hk : Snd1c N X T (.type q) k) (ha : PE X a (cE N X.K T Wx f)) (hs : noStar a = true) :
    PE X (.Call (.Name x p) [a] [] pos) (cE N X.K T Wx (one f k fz)) := by
  obtain ⟨r, hc, hr⟩ := hk
  refine PEw (pe_callTy hc hb.gl hb.no hb.at_ (pa_cons ha pa_nil (star1 hs)) hb.n1 hb.n2 (star1 hs) (back_any (es := []) rfl)) fun σ H Q ⟨L, e, s, re, rs, o⟩ => ?_
  exact cE_then re rs o fun w L1 H1 s1 v p1 re1 rs1 rv o1 => hr fz L1 H1 s1 v w Q _ rs1 rv o1
theorem pe_b2 {x : Str} {q : String} {p : Pos} {fz : Bool} {k : W → W → Sto → TT.R TT.Vl} (hb : Blt X x (.builtin q)) (hk : Snd2c N X T (.builtin q) k) (ha : PE X a (cE N X.K T Wx f)) (hb' : PE X b (cE N X.K T Wx g)) (hs : noStar a = true) (hs' : noStar b = true) :
    PE X (.Call (.Name x p) [a, b] [] pos) (cE N X.K T Wx (two f g k fz)) := by
  obtain ⟨r, hc, hr⟩ := hk
  refine PEw (pe_callB hc hb.gl hb.no hb.at_ (pa_cons ha (pa_cons hb' pa_nil (star1 hs')) (star1 hs)) hb.n1 hb.n2 (star1 hs) (back_any (es := [b]) (by simp [hs']))) fun σ H Q ⟨L, e, s, re, rs, o⟩ => ?_
  exact cE_then re rs o fun w L1 H1 s1 v p1 re1 rs1 rv o1 => cE_then re1 rs1 o1 fun u L2 H2 s2 y p2 re2 rs2 ru o2 => hr fz L2 H2 s2 v y w u Q _ rs2 (rv.pst p2) ru o2
/-- isinstance(a, tuple) -/
theorem pe_isT {p p2 : Pos} {fz : Bool} (hb : Blt X "isinstance" (.builtin "isinstance")) (ht : Blt X "tuple" (.type "tuple")) (ha : PE X a (cE N X.K T Wx f)) (hs : noStar a = true) :
    PE X (.Call (.Name "isinstance" p) [a, .Name "tuple" p2] [] pos) (cE N X.K T Wx (one f (fun x s => TT.opSem .isTup [x] s) fz)) := by
  have h2 : PE X (.Name "tuple" p2) (tC (.ty "tuple")) := pe_bltn ht.gl ht.no ht.at_ rfl ht.n1 ht.n2
  refine PEw (pe_callB call_isi hb.gl hb.no hb.at_ (pa_cons ha (pa_cons h2 pa_nil (star1 rfl)) (star1 hs)) hb.n1 hb.n2 (star1 hs) (back_any (es := [.Name "tuple" p2]) rfl)) fun σ H Q ⟨L, e, s, re, rs, o⟩ => ?_
  exact cE_then re rs o fun w L1 H1 s1 v p1 re1 rs1 rv o1 => snd_isTup rs1 rv o1
/-! ### chains of comparisons -/
/-- the operators of a chain: dInts -/
def coOf : TT.Op → Option CmpOp
  | .lt => some .Lt
  | .le => some .LtE
  | _ => none
def coB (o : TT.Op) (i j : Int) : Bool := match o with
  | .lt => decide (i < j)
  | .le => decide (i ≤ j)
  | _ => false
theorem co_op {o : TT.Op} {q : CmpOp} (h : coOf o = some q) : OpR X (compareOp q) (rI0 fun i j => .bl (coB o i j)) := by
  cases o <;> simp [coOf] at h <;> subst h
  · exact op_lt
  · exact op_le
theorem co_sem {o : TT.Op} {x y : W} {r : Bool} (h : TT.coSem o x y = some r) : ∃ i j, x = .d (.int i) ∧ y = .d (.int j) ∧ r = coB o i j := by
  unfold TT.coSem at h
  split at h
  · cases h; exact ⟨_, _, rfl, rfl, rfl⟩
  · cases h; exact ⟨_, _, rfl, rfl, rfl⟩
  · cases h
theorem pe_chn {o o' : TT.Op} {q q' : CmpOp} {x y z : TT.E} (c : TT.Cxt) (h1 : coOf o = some q) (h2 : coOf o' = some q') (ha : PE X a (cE N X.K T Wx (TT.evE c x))) (hb : PE X b (cE N X.K T Wx (TT.evE c y))) (hd : PE X d (cE N X.K T Wx (TT.evE c z))) (hm : noSet d = true) :
    PE X (.Compare a [q, q'] [b, d] pos) (cE N X.K T Wx (TT.evE c (.chain o o' x y z))) := by
  refine PEw (pe_chain (co_op h1) (co_op h2) ha hb hd (marks_no hm)) fun σ H Q ⟨L, e, s, re, rs, w⟩ => ?_
  simp only [TT.evE] at w
  refine cE_then re rs w fun wx L1 H1 s1 v p1 re1 rs1 rv w1 => cE_then re1 rs1 w1 fun wy L2 H2 s2 u p2 re2 rs2 ru w2 => ?_
  cases e1 : TT.coSem o wx wy with
  | none => rw [e1] at w2; exact False.elim w2
  | some r =>
    rw [e1] at w2
    obtain ⟨i, j, rfl, rfl, rfl⟩ := co_sem e1
    refine ⟨i, j, RepD.int_inv rv, RepD.int_inv ru, coB o i j, rfl, ?_⟩
    cases e2 : coB o i j with
    | false =>
      rw [e2] at w2
      exact w2.here rs2 _ (.bl false)
    | true =>
      rw [e2] at w2
      refine cE_then re2 rs2 w2 fun wz L3 H3 s3 t p3 re3 rs3 rt w3 => ?_
      cases e3 : TT.coSem o' (.d (.int j)) wz with
      | none => rw [e3] at w3; exact False.elim w3
      | some r' =>
        rw [e3] at w3
        obtain ⟨j', k, e4, rfl, rfl⟩ := co_sem e3
        cases e4
        exact ⟨j, k, RepD.int_inv ru, RepD.int_inv rt, w3.here rs3 _ (.bl _)⟩
/-! ### tests -/
theorem asB_ok {w : W} {r : Bool} (h : TT.asB w = some r) : w = .d (.bl r) := by
  unfold TT.asB at h
  split at h
  · cases h; rfl
  · cases h
theorem bl_here {K : PySem.W.Frag} {L : Loc} {H : Hp} {s : Sto} {w : W} {v : L2.V} {Q : Bool → Hp → Prop} {er : Nat → Hp → Prop} (rs : RelS N K T L H s) (rv : RepW N K L H v w)
    (o : Out N K T L H (fun b _ H' _ => Q b H') er (TT.R.of (TT.asB w) s)) : ∃ c, v = .bl c ∧ Q c H := by
  cases e : TT.asB w with
  | none => rw [e] at o; exact False.elim o
  | some r =>
    rw [e] at o
    rw [asB_ok e] at rv
    exact ⟨r, RepD.bl_inv rv, o.here rs⟩
theorem pt_v (ha : PE X a (cE N X.K T Wx f)) (hp : plainTest a = true) : PT X a (cT N X.K T Wx (asT f)) :=
  PTw (pt_val ha (test_plain hp)) fun σ H Q ⟨L, e, s, re, rs, o⟩ => cE_then re rs o fun w L1 H1 s1 v p1 re1 rs1 rv o1 => bl_here rs1 rv o1
theorem pt_cp {op : CmpOp} {fz : Bool} {k : W → W → Sto → TT.R TT.Vl} (hk : Snd2 N X T (compareOp op) k) (ha : PE X a (cE N X.K T Wx f)) (hb : PE X b (cE N X.K T Wx g)) (hm : behindInMarks op b = false) :
    PT X (.Compare a [op] [b] pos) (cT N X.K T Wx (asT (two f g k fz))) := by
  obtain ⟨r, ho, hr⟩ := hk
  refine PTw (pt_cmpR ho ha hb hm) fun σ H Q ⟨L, e, s, re, rs, o⟩ => ?_
  show tOp r _ _ σ H _
  refine two_then (k := k) (fz := fz) hr σ H _ ⟨L, e, s, re, rs, (Out.bind o).mono (fun w L1 H1 s1 p1 rs1 o1 v rv => ?_) fun _ _ x => x⟩
  exact bl_here rs1 rv o1
theorem pt_chn {o o' : TT.Op} {q q' : CmpOp} {x y z : TT.E} (c : TT.Cxt) (h1 : coOf o = some q) (h2 : coOf o' = some q') (ha : PE X a (cE N X.K T Wx (TT.evE c x))) (hb : PE X b (cE N X.K T Wx (TT.evE c y))) (hd : PE X d (cE N X.K T Wx (TT.evE c z))) (hm : noSet d = true) :
    PT X (.Compare a [q, q'] [b, d] pos) (cT N X.K T Wx (asT (TT.evE c (.chain o o' x y z)))) := by
  refine PTw (pt_chain (co_op h1) (co_op h2) ha hb hd (marks_no hm)) fun σ H Q ⟨L, e, s, re, rs, w⟩ => ?_
  simp only [asT, TT.evE] at w
  have w' := Out.bind w
  refine cE_then re rs w' fun wx L1 H1 s1 v p1 re1 rs1 rv w1 => cE_then re1 rs1 w1 fun wy L2 H2 s2 u p2 re2 rs2 ru w2 => ?_
  cases e1 : TT.coSem o wx wy with
  | none => rw [e1] at w2; exact False.elim w2
  | some r =>
    rw [e1] at w2
    obtain ⟨i, j, rfl, rfl, rfl⟩ := co_sem e1
    refine ⟨i, j, RepD.int_inv rv, RepD.int_inv ru, coB o i j, rfl, ?_⟩
    cases e2 : coB o i j with
    | false =>
      rw [e2] at w2
      exact ⟨false, rfl, (w2.here rs2).here rs2⟩
    | true =>
      rw [e2] at w2
      refine cE_then re2 rs2 w2 fun wz L3 H3 s3 t p3 re3 rs3 rt w3 => ?_
      cases e3 : TT.coSem o' (.d (.int j)) wz with
      | none => rw [e3] at w3; exact False.elim w3
      | some r' =>
        rw [e3] at w3
        obtain ⟨j', k, e4, rfl, rfl⟩ := co_sem e3
        cases e4
        exact ⟨j, k, RepD.int_inv ru, RepD.int_inv rt, _, rfl, (w3.here rs3).here rs3⟩
theorem pt_n {x : TT.E} (c : TT.Cxt) (ha : PT X a (cT N X.K T Wx (asT (TT.evE c x)))) : PT X (.UnaryOp .Not a pos) (cT N X.K T Wx (asT (TT.evE c (.not x)))) :=
  PTw (pt_not ha) fun σ H Q ⟨L, e, s, re, rs, o⟩ => ⟨L, e, s, re, rs, by
    simp only [asT, TT.evE] at o ⊢
    cases h1 : TT.evE c x e s with
    | ok w s1 =>
      rw [h1] at o
      simp only [TT.R.bind_ok] at o ⊢
      cases h2 : TT.asB w with
      | none => rw [h2] at o; exact o
      | some r => rw [h2] at o; exact o
    | err _ _ => rw [h1] at o; exact o
    | no => rw [h1] at o; exact o⟩
theorem pe_n {x : TT.E} (c : TT.Cxt) (ha : PE X a (cE N X.K T Wx (TT.evE c x))) : PE X (.UnaryOp .Not a pos) (cE N X.K T Wx (TT.evE c (.not x))) :=
  PEw (pe_not ha) fun σ H Q ⟨L, e, s, re, rs, o⟩ => by
    simp only [TT.evE] at o
    refine cE_then re rs o fun w L1 H1 s1 v p1 re1 rs1 rv o1 => ?_
    cases h2 : TT.asB w with
    | none => rw [h2] at o1; exact False.elim o1
    | some r =>
      rw [h2] at o1
      rw [asB_ok h2] at rv
      exact ⟨r, RepD.bl_inv rv, o1.here rs1 _ (.bl _)⟩
/-! ### and, or -/
def bopOf : Bool → BoolOp
  | true => .And
  | false => .Or
theorem pw_1 {x : TT.E} (q : Bool) (c : TT.Cxt) (ha : PT X a (cT N X.K T Wx (asT (TT.evE c x)))) : PW X (.BoolOp (bopOf q) [a] pos) (cT N X.K T Wx (asT (TT.evB c q (.cons x .nil)))) := by
  have w : ∀ σ H Q, cT N X.K T Wx (asT (TT.evB c q (.cons x .nil))) σ H Q → cT N X.K T Wx (asT (TT.evE c x)) σ H Q := fun σ H Q ⟨L, e, s, re, rs, o⟩ => ⟨L, e, s, re, rs, by
    simp only [asT, TT.evB] at o ⊢
    cases h1 : TT.evE c x e s with
    | ok w s1 =>
      rw [h1] at o
      simp only [TT.R.bind_ok] at o ⊢
      cases h2 : TT.asB w with
      | none => rw [h2] at o; exact o
      | some r => rw [h2] at o; exact o
    | err _ _ => rw [h1] at o; exact o
    | no => rw [h1] at o; exact o⟩
  cases q with
  | true => exact PWw (pw_and1 ha) w
  | false => exact PWw (pw_or1 ha) w
theorem pw_2 {x y : TT.E} {xs : TT.Es} {rest : List Expr} (q : Bool) (c : TT.Cxt) (ha : PT X a (cT N X.K T Wx (asT (TT.evE c x)))) (hb : PW X (.BoolOp (bopOf q) (b :: rest) pos) (cT N X.K T Wx (asT (TT.evB c q (.cons y xs))))) :
    PW X (.BoolOp (bopOf q) (a :: b :: rest) pos) (cT N X.K T Wx (asT (TT.evB c q (.cons x (.cons y xs))))) := by
  cases q with
  | true =>
    refine PWw (pw_and ha hb) fun σ H Q ⟨L, e, s, re, rs, o⟩ => ⟨L, e, s, re, rs, ?_⟩
    simp only [asT, TT.evB] at o ⊢
    cases h1 : TT.evE c x e s with
    | ok w s1 =>
      rw [h1] at o
      simp only [TT.R.bind_ok] at o ⊢
      cases h2 : TT.asB w with
      | none => rw [h2] at o; exact o
      | some r =>
        rw [h2] at o
        intro L' H' p z
        cases r with
        | true => exact ⟨L', e, s1, re.pst p, z, Out.step p o⟩
        | false => exact o L' H' p z
    | err _ _ => rw [h1] at o; exact o
    | no => rw [h1] at o; exact o
  | false =>
    refine PWw (pw_or ha hb) fun σ H Q ⟨L, e, s, re, rs, o⟩ => ⟨L, e, s, re, rs, ?_⟩
    simp only [asT, TT.evB] at o ⊢
    cases h1 : TT.evE c x e s with
    | ok w s1 =>
      rw [h1] at o
      simp only [TT.R.bind_ok] at o ⊢
      cases h2 : TT.asB w with
      | none => rw [h2] at o; exact o
      | some r =>
        rw [h2] at o
        intro L' H' p z
        cases r with
        | true => exact o L' H' p z
        | false => exact ⟨L', e, s1, re.pst p, z, Out.step p o⟩
    | err _ _ => rw [h1] at o; exact o
    | no => rw [h1] at o; exact o
theorem pe_bop1 {x : TT.E} (q : Bool) (c : TT.Cxt) (ha : PE X a (cE N X.K T Wx (TT.evE c x))) : PE X (.BoolOp (bopOf q) [a] pos) (cE N X.K T Wx (TT.evB c q (.cons x .nil))) :=
  PEw (pe_one ha) fun σ H Q ⟨L, e, s, re, rs, o⟩ => by
    simp only [TT.evB] at o
    refine ⟨L, e, s, re, rs, (Out.bind o).mono (fun w L1 H1 s1 p1 rs1 o1 v rv => ?_) fun _ _ x => x⟩
    cases h2 : TT.asB w with
    | none => rw [h2] at o1; exact False.elim o1
    | some r =>
      rw [h2] at o1
      rw [asB_ok h2] at rv
      exact o1.here rs1 v rv
theorem pe_bop2 {x y : TT.E} {xs : TT.Es} {rest : List Expr} (q : Bool) (c : TT.Cxt) (ha : PE X a (cE N X.K T Wx (TT.evE c x))) (hb : PE X (.BoolOp (bopOf q) (b :: rest) pos) (cE N X.K T Wx (TT.evB c q (.cons y xs)))) :
    PE X (.BoolOp (bopOf q) (a :: b :: rest) pos) (cE N X.K T Wx (TT.evB c q (.cons x (.cons y xs)))) := by
  cases q with
  | true =>
    refine PEw (pe_and ha hb) fun σ H Q ⟨L, e, s, re, rs, o⟩ => ?_
    simp only [TT.evB] at o
    refine cE_then re rs o fun w L1 H1 s1 v p1 re1 rs1 rv o1 => ?_
    cases h2 : TT.asB w with
    | none => rw [h2] at o1; exact False.elim o1
    | some r =>
      rw [h2] at o1
      rw [asB_ok h2] at rv
      refine ⟨r, RepD.bl_inv rv, ?_⟩
      cases r with
      | true => exact ⟨L1, e, s1, re1, rs1, o1⟩
      | false => exact o1.here rs1 _ (.bl false)
  | false =>
    refine PEw (pe_or ha hb) fun σ H Q ⟨L, e, s, re, rs, o⟩ => ?_
    simp only [TT.evB] at o
    refine cE_then re rs o fun w L1 H1 s1 v p1 re1 rs1 rv o1 => ?_
    cases h2 : TT.asB w with
    | none => rw [h2] at o1; exact False.elim o1
    | some r =>
      rw [h2] at o1
      rw [asB_ok h2] at rv
      refine ⟨r, RepD.bl_inv rv, ?_⟩
      cases r with
      | true => exact o1.here rs1 _ (.bl true)
      | false => exact ⟨L1, e, s1, re1, rs1, o1⟩
theorem pe_if {x y z : TT.E} (c : TT.Cxt) (hc : PT X a (cT N X.K T Wx (asT (TT.evE c x)))) (hb : PE X b (cE N X.K T Wx (TT.evE c y))) (hd : PE X d (cE N X.K T Wx (TT.evE c z))) : PE X (.IfExp a b d pos) (cE N X.K T Wx (TT.evE c (.ife x y z))) :=
  PEw (pe_ifExp hc hb hd) fun σ H Q ⟨L, e, s, re, rs, o⟩ => ⟨L, e, s, re, rs, by
    simp only [asT, TT.evE] at o ⊢
    cases h1 : TT.evE c x e s with
    | ok w s1 =>
      rw [h1] at o
      simp only [TT.R.bind_ok] at o ⊢
      cases h2 : TT.asB w with
      | none => rw [h2] at o; exact o
      | some r =>
        rw [h2] at o
        intro L' H' p rs'
        cases r with
        | true => exact ⟨L', e, s1, re.pst p, rs', Out.step p o⟩
        | false => exact ⟨L', e, s1, re.pst p, rs', Out.step p o⟩
    | err _ _ => rw [h1] at o; exact o
    | no => rw [h1] at o; exact o⟩
/-! ### displays -/
theorem asDs_rep {K : PySem.W.Frag} {L : Loc} {H : Hp} : ∀ {ws : List W} {vs : List L2.V} {ds : List D}, RepWs N K L H vs ws → TT.asDs ws = some ds → RepDs N K L H vs ds
  | [], _, ds, r, h => by cases r; cases h; exact .nil
  | w :: ws, _, ds, r, h => by
    cases r with
    | cons r t =>
      cases w with
      | d x =>
        simp only [TT.asDs, Option.map_eq_some_iff] at h
        obtain ⟨es, h1, rfl⟩ := h
        exact .cons r (asDs_rep t h1)
      | loc l => simp [TT.asDs] at h
theorem evs_then {K : PySem.W.Frag} {σ : L2.St} {H : Hp} {L : Loc} {e : TT.Env} {s : Sto} {α : Type} {ok : α → Loc → Hp → Sto → Prop} {k : List W → Sto → TT.R α} {Q : List L2.V → Hp → Prop} {xs : TT.Es} (c : TT.Cxt) (re : RelE N K L H σ e) (rs : RelS N K T L H s)
    (o : Out N K T L H ok (fun c H' => Wx (.ref (N.ea K c)) none σ H') ((TT.evEs c xs e s).bind k))
    (q : ∀ ws L' H' s' vs, ws.length = xs.len → Pst L L' H H' → RelE N K L' H' σ e → RelS N K T L' H' s' → RepWs N K L' H' vs ws → Out N K T L' H' ok (fun c H' => Wx (.ref (N.ea K c)) none σ H') (k ws s') → Q vs H') : cA N K T Wx (TT.evEs c xs) σ H Q := by
  refine ⟨L, e, s, re, rs, ?_⟩
  cases h1 : TT.evEs c xs e s with
  | ok ws s1 =>
    rw [h1] at o
    exact fun L' H' p z vs rv => q ws L' H' s1 vs (evEs_len c xs e s ws s1 h1) p (re.pst p) z rv (Out.step p o)
  | err _ _ => rw [h1] at o; exact o
  | no => rw [h1] at o; exact o
theorem pe_tp {xs : TT.Es} {es : List Expr} {x1 : Nat} (c : TT.Cxt) (h : PA X es (cA N X.K T Wx (TT.evEs c xs))) (hl : xs.len ≤ 1000) : PE X (.Tuple es x1 pos) (cE N X.K T Wx (TT.evE c (.tup xs))) :=
  PEw (pe_tup h) fun σ H Q ⟨L, e, s, re, rs, o⟩ => by
    simp only [TT.evE] at o
    refine evs_then c re rs o fun ws L1 H1 s1 vs ln p1 re1 rs1 rv o1 => ?_
    cases h2 : TT.asDs ws with
    | none => rw [h2] at o1; exact False.elim o1
    | some ds =>
      rw [h2] at o1
      have rd := asDs_rep rv h2
      refine ⟨by rw [rv.len, ln, sizeLine_eq]; omega, fun p hp => ?_⟩
      exact o1 L1 _ (Pst.new_ hp) (rs1.new_ hp) _ (RepD.tup ⟨fresh_notin rs1 hp, upd_same⟩ (rd.keeps (Pst.new_ hp).keeps))
theorem pe_ls {xs : TT.Es} {es : List Expr} {fz : Bool} (c : TT.Cxt) (h : PA X es (cA N X.K T Wx (TT.evEs c xs))) (hl : xs.len ≤ 1000) : PE X (.List es pos) (cE N X.K T Wx (TT.evE c (.lst fz xs))) :=
  PEw (pe_lst h) fun σ H Q ⟨L, e, s, re, rs, o⟩ => by
    simp only [TT.evE] at o
    refine evs_then c re rs o fun ws L1 H1 s1 vs ln p1 re1 rs1 rv o1 => ?_
    cases h2 : TT.asDs ws with
    | none => rw [h2] at o1; exact False.elim o1
    | some ds =>
      rw [h2] at o1
      exact ⟨by rw [rv.len, ln, sizeLine_eq]; omega, fun p hp => fin_fl' rs1 o1 (asDs_rep rv h2) hp⟩
theorem pe_dc {fz : Bool} {t : Nat} (c : TT.Cxt) (ht : t = 0 ∨ t = 1 ∨ t = 3) : PE X (.Dict [] [] pos) (cE N X.K T Wx (TT.evE c (.dic fz t))) := by
  rcases ht with rfl | rfl | rfl
  · refine PEw pe_dnewK fun σ H Q ⟨L, e, s, re, rs, o⟩ p hp => ?_
    simp only [TT.evE, TT.fin] at o
    cases fz with
    | true => exact o L _ (Pst.new_ hp) (rs.new_ hp) _ (RepD.dK (kvs := []) (fresh_notin rs hp) (.inl upd_same) .nil)
    | false =>
      refine o (L ++ [some p]) _ (Pst.grow hp) (rs.grow hp (show isMut (.dK []) from trivial) (.dK (kvs := []) upd_same .nil)) _ ⟨p, ?_, rfl⟩
      rw [← rs.len]; simp
  · refine PEw pe_dnewT fun σ H Q ⟨L, e, s, re, rs, o⟩ p hp => ?_
    simp only [TT.evE, TT.fin] at o
    cases fz with
    | true => exact o L _ (Pst.new_ hp) (rs.new_ hp) _ (RepD.dT (kvs := []) (fresh_notin rs hp) (.inl upd_same) .nil)
    | false =>
      refine o (L ++ [some p]) _ (Pst.grow hp) (rs.grow hp (show isMut (.dT []) from trivial) (.dT (kvs := []) upd_same .nil)) _ ⟨p, ?_, rfl⟩
      rw [← rs.len]; simp
  · refine PEw pe_dnewK fun σ H Q ⟨L, e, s, re, rs, o⟩ p hp => ?_
    simp only [TT.evE, TT.fin] at o
    cases fz with
    | true => exact o L _ (Pst.new_ hp) (rs.new_ hp) _ (RepD.d3 (fresh_notin rs hp) (.inl upd_same))
    | false =>
      refine o (L ++ [some p]) _ (Pst.grow hp) (rs.grow hp (show isMut (.dK []) from trivial) (.d3 upd_same)) _ ⟨p, ?_, rfl⟩
      rw [← rs.len]; simp
end
end TS

set_option maxRecDepth 100000
/-! isinstance of an own class. -/
namespace TS
open PySem PySem.Spec PyProof.Rows L2
structure IsiC (N : Nm) (K : PySem.W.Frag) (c : Nat) : Prop where
  ha : PySem.W.findIn K (.ref (N.ca K c)) "__class__" = some (some (.builtin "object.__class__"))
  hm : PySem.W.mroIn K (N.ca K c) (.type "object") = some true
  str : PySem.W.kitOne K (.type "str") (.ref (N.ca K c)) = some false
  non : PySem.W.kitOne K (.type "NoneType") (.ref (N.ca K c)) = some false
  tup : PySem.W.kitOne K (.type "tuple") (.ref (N.ca K c)) = some false
  obj : ∀ k, k < N.cs.length → PySem.W.kitOne K (.ref (N.ca K k)) (.ref (N.ca K c)) = some (decide (k = c))
structure IsiK (N : Nm) (K : PySem.W.Frag) : Prop where
  hn : PySem.W.specialIn K (.builtin "object.__class__") "__get__" = some (some (.builtin "getset_descriptor.__get__"))
  htk : PySem.W.takesIn K (.builtin "object.__class__") = some true
  each : ∀ c, c < N.cs.length → IsiC N K c
theorem isi_of {N : Nm} {K : PySem.W.Frag} (h : isiB N K = true) : IsiK N K := by
  unfold isiB at h
  simp only [Bool.and_eq_true, decide_eq_true_eq, List.all_eq_true, List.mem_range] at h
  obtain ⟨h1, h2, h3⟩ := h
  exact ⟨h1, h2, fun c hc => by
    obtain ⟨a, b, d, e, f, g⟩ := h3 c hc
    exact ⟨a, b, d, e, f, g⟩⟩
section
variable {N : Nm} {X : Cx} {T : List (Addr × Str)}
theorem snd_isCls {c : Nat} (hc : c < N.cs.length) (I : IsiK N X.K) (C : ∀ k, k < N.cs.length → Cls X.K (N.ca X.K k)) {fz : Bool} {L : Loc} {H : Hp} {s : Sto} {x : L2.V} {wx : W} {Q : VK} {er : Nat → Hp → Prop} (z : RelS N X.K T L H s) (rx : RepW N X.K L H x wx)
    (o : Out N X.K T L H (okW N X.K Q) er ((TT.opSem (.isCls c) [wx] s).bind (TT.fin fz))) : rIsi X.K [x, .ref (N.ca X.K c)] H Q := by
  have i := I.each c hc
  simp only [TT.opSem] at o
  unfold TT.isClsS at o
  split at o
  · rename_i k ks vs
    have rx' : RepD N X.K L H x (.obj k ks vs) := rx
    cases rx' with
    | obj hk n h e r =>
      have j := I.each k hk
      exact ⟨_, _, _, _, _, rfl, .own _, .base (.ins h (C k hk) j.ha I.hn I.htk j.hm), i.obj k hk, fin_bl z o⟩
  · rw [RepD.str_inv rx]
    exact ⟨_, _, _, _, false, rfl, .own _, .base (.str _), i.str, fin_bl z o⟩
  · rw [RepD.non_inv rx]
    exact ⟨_, _, _, _, false, rfl, .own _, .base .non, i.non, fin_bl z o⟩
  · obtain ⟨a, xs, rfl, h, t⟩ := RepD.tup_inv rx
    exact ⟨_, _, _, _, false, rfl, .own _, .base (.tup h.2), i.tup, fin_bl z o⟩
  · exact no_out o
theorem pe_isC {a : Expr} {f : TT.Env → Sto → TT.R W} {Wx : WX} {y : Str} {c : Nat} {p p2 pos : Pos} {fz : Bool} (hc : c < N.cs.length) (I : IsiK N X.K) (C : ∀ k, k < N.cs.length → Cls X.K (N.ca X.K k)) (hb : Blt X "isinstance" (.builtin "isinstance")) (hg : Gl X y) (hm : X.mg y = some (.ref (N.ca X.K c))) (hd : (y == ("__debug__" : Str)) = false) (ha : PE X a (cE N X.K T Wx f)) (hs : noStar a = true) :
    PE X (.Call (.Name "isinstance" p) [a, .Name y p2] [] pos) (cE N X.K T Wx (one f (fun x s => TT.opSem (.isCls c) [x] s) fz)) := by
  have h2 := pe_glob (pos := p2) (v := V.ref (N.ca X.K c)) hg hm rfl hd
  refine PEw (pe_callB call_isi hb.gl hb.no hb.at_ (pa_cons ha (pa_cons h2 pa_nil (star1 rfl)) (star1 hs)) hb.n1 hb.n2 (star1 hs) (back_any (es := [.Name y p2]) rfl)) fun σ H Q ⟨L, e, s, re, rs, o⟩ => ?_
  exact cE_then re rs o fun w L1 H1 s1 v p1 re1 rs1 rv o1 => snd_isCls hc I C rs1 rv o1
end
end TS

set_option maxRecDepth 100000
/-! Slices, reversed slices, attributes, methods of built-in types. -/
namespace TS
open PySem PySem.Spec PyProof.Rows L2
/-! ### t[::-1] of a tuple -/
theorem adj_back (n : Nat) : Builtin.Slice.sliceAdjust none none (-1) (n : Int) = ((n : Int) - 1, -1) := rfl
theorem plc_back (n : Nat) : Builtin.Slice.slicePlaces ((n : Int) - 1) (-1) (-1) = n := by
  unfold Builtin.Slice.slicePlaces
  rw [if_neg (by decide)]
  cases n with
  | zero => rfl
  | succ n =>
    rw [if_pos (by omega)]
    show ((((n + 1 : Nat) : Int) - 1 - -1 - 1) / 1 + 1).toNat = n + 1
    rw [Int.ediv_one]
    omega
theorem fmap_some {α β : Type} {f : α → Option β} {g : α → β} : ∀ {l : List α}, (∀ m, m ∈ l → f m = some (g m)) → l.filterMap f = l.map g
  | [], _ => rfl
  | a :: l, h => by
    rw [List.filterMap_cons, h a (by simp), List.map_cons, fmap_some fun m hm => h m (by simp [hm])]
theorem pick_back (xs : Array Value) : ((List.range xs.size).filterMap fun (m : Nat) => xs[(((xs.size : Int) - 1) + (m : Int) * (-1)).toNat]?).toArray = xs.toList.reverse.toArray := by
  congr 1
  apply List.ext_getElem?
  intro i
  have h : ((List.range xs.size).filterMap fun (m : Nat) => xs[(((xs.size : Int) - 1) + (m : Int) * (-1)).toNat]?) = (List.range xs.size).map fun m => xs.toList.getD (xs.size - 1 - m) .none := by
    refine fmap_some fun m hm => ?_
    rw [List.mem_range] at hm
    have e : (((xs.size : Int) - 1) + (m : Int) * (-1)).toNat = xs.size - 1 - m := by omega
    have l : xs.size - 1 - m < xs.size := by omega
    rw [e, Array.getElem?_eq_getElem l]
    simp [List.getD, l]
  rw [h]
  by_cases hi : i < xs.size
  · rw [List.getElem?_map, List.getElem?_range hi, List.getElem?_reverse (by simpa using hi)]
    have l : xs.size - 1 - i < xs.size := by omega
    simp [List.getD, l]
  · rw [List.getElem?_eq_none (by simp; omega), List.getElem?_eq_none (by simp; omega)]
section
variable {prog : Program} {w : World} {A : Around} {E : Value → Shared → Prop} {s : Shared}
theorem tup_back {t sl : Addr} {its : Array Value} {vl vu vs : Value} {Q : Value → Shared → Prop} (ht : IsTup s.heap t its) (hs : s.heap.IsSliceOf sl vl vu vs) (pl : IsPart vl none) (pu : IsPart vu none) (ps : IsPart vs (some (-1)))
    (h : Q (.ref s.heap.objs.size) { s with heap := s.heap.push { cls := .type "tuple", data := .seq its.toList.reverse.toArray } }) (hz : its.size ≤ sizeLine) : wpAny (model prog w) A (getItem (.ref t) (.ref sl)) Q E s := by
  have fits : sizeOk (.seq its.toList.reverse.toArray) := by
    show its.toList.reverse.toArray.size ≤ sizeLine
    simpa using hz
  obtain ⟨o, ho, hc, hd⟩ := id hs
  have isSl : s.TypeIs (.ref sl) "slice" := ⟨o, ho, hc⟩
  unfold getItem
  try with_reducible refine wpAny_holding ?_
  first
    | refine wpAny_bind (wpAny_pure ?_)
    | skip
  refine wpAny_bind (wpAny_sequenceKey (T := "tuple") ht.typeIs (by decide) ?_)
  refine wpAny_bind (wpAny_callSpecial?_slot (name := Str.ofString "__getitem__") (T := "tuple") ht.typeIs PyProof.Rows.slot_tuple_getitem ?_)
  refine wpAny_call_entry PyProof.Rows.slot_tuple_getitem (T := "tuple") ht.typeIs entry_tuple_getitem ?_ (args_tuple_getitem _ _)
  show wpAny _ _ (Builtin.Tuple.tupleItemsOf (.ref t) >>= _) _ _ s
  refine wpAny_bind (tupleItemsOf_ ht (wpAny_bind (wpAny_typeOf isSl ?_)))
  rw [if_pos (by decide)]
  refine wpAny_bind (m := Builtin.Slice.sliceApplied (.ref sl) (pure (its.size : Int))) ?_
  unfold Builtin.Slice.sliceApplied Builtin.Slice.sliceFields
  refine wpAny_bind (wpAny_bind (wpAny_field ho hd (x := vl) rfl (wpAny_bind (wpAny_field ho hd (x := vu) rfl (wpAny_bind (wpAny_field ho hd (x := vs) rfl (wpAny_pure ?_)))))))
  refine wpAny_bind (HT.slicePart_ ps ?_)
  show wpAny _ _ (if ((-1 : Int) == 0) = true then _ else _) _ _ s
  rw [if_neg (by decide)]
  refine wpAny_bind (HT.slicePart_ pl (wpAny_bind (HT.slicePart_ pu (wpAny_bind (wpAny_pure ?_)))))
  show wpAny _ _ (match Builtin.Slice.sliceAdjust none none (-1) (its.size : Int) with | (lo, hi) => pure (lo, (-1 : Int), Builtin.Slice.slicePlaces lo hi (-1))) _ _ s
  rw [adj_back]
  show wpAny _ _ (pure ((its.size : Int) - 1, (-1 : Int), Builtin.Slice.slicePlaces ((its.size : Int) - 1) (-1) (-1))) _ _ s
  rw [plc_back]
  refine wpAny_pure ?_
  have no : ¬ ((((its.size : Int) - 1) == 0 && (-1 : Int) == 1 && its.size == its.size) = true) := by simp
  show wpAny _ _ (if ((((its.size : Int) - 1) == 0 && (-1 : Int) == 1 && its.size == its.size) = true) then _ else _) _ _ s
  rw [if_neg no, pick_back]
  first
    | exact wpAny_bind (m := Builtin.Tuple.tupleExact _) (wpAny_newObj_type (wpAny_pure ⟨_, rfl, wpAny_pure h⟩) fits)
    | exact wpAny_bind (m := Builtin.Tuple.tupleExact _) (wpAny_newObj_type (wpAny_bind (wpAny_pure (wpAny_pure ⟨_, rfl, wpAny_pure h⟩))) fits)
    | exact wpAny_bind (wpAny_bind (m := Builtin.Tuple.tupleExact _) (wpAny_newObj_type (wpAny_pure (wpAny_pure ⟨_, rfl, wpAny_pure h⟩)) fits))
    | exact wpAny_bind (wpAny_bind (m := Builtin.Tuple.tupleExact _) (wpAny_newObj_type (wpAny_pure ⟨_, rfl, wpAny_pure h⟩) fits))
end
/-- x[::-1] of a list or a tuple -/
def tRv (K : PySem.W.Frag) (te : TE) : TE := fun σ H Q => te σ H fun x H1 =>
  (∃ a xs, x = .ref a ∧ SqL K H1 a xs ∧ ∀ p, H1 p = none → Q (.ref p) (upd H1 p (.lst xs.reverse))) ∨ (∃ a xs, x = .ref a ∧ SqT K H1 a xs ∧ ∀ p, H1 p = none → Q (.ref p) (upd H1 p (.tup xs.reverse)))
abbrev backSl (k : Nat) (p1 p2 p3 : Pos) : Expr := .Slice none none (some (.UnaryOp .USub (.Constant (.int 1) k p1) p2)) p3
theorem pe_rv {X : Cx} {e : Expr} {te : TE} {k : Nat} {p1 p2 p3 pos : Pos} (he : PE X e te) : PE X (.Subscript e (backSl k p1 p2 p3) pos) (tRv X.K te) := by
  constructor
  intro pins s σ H Q I h
  refine Subscript_ (thn (he.run pins s σ H _ I h) fun v s1 hv => ?_)
  obtain ⟨x, H1, I1, r1, q1⟩ := hv
  have step : PO X (some (.UnaryOp .USub (.Constant (.int 1) k p1) p2)) (tPart (tUn (rU fun i => .int (-i)) (tC (.int 1)))) := po_some (pe_un un_neg pe_int)
  refine wpAny_Slice (thn (po_none.run pins s1 σ H1 (fun o H2 => o = none ∧ H2 = H1) I1 ⟨rfl, rfl⟩) fun vl s2 h2 => ?_)
  obtain ⟨l, H2, I2, pl, el, e2⟩ := h2
  subst el e2
  refine thn (po_none.run pins s2 σ H2 (fun o H3 => o = none ∧ H3 = H2) I2 ⟨rfl, rfl⟩) fun vu s3 h3 => ?_
  obtain ⟨u, H3, I3, pu, eu, e3⟩ := h3
  subst eu e3
  refine thn (step.run pins s3 σ H3 (fun o H4 => o = some (-1) ∧ H4 = H3) I3 ⟨1, rfl, -1, rfl, rfl, rfl⟩) fun vs s4 h4 => ?_
  obtain ⟨o, H4, I4, ps, eo, e4⟩ := h4
  subst eo e4
  have I5 : Inv X pins σ H4 { s4 with heap := s4.heap.push { cls := .type "slice", data := .fields #[vl, vu, vs] } } := I4.kept (t' := s4.toks) fun b ob q => Heap.get?_push_of_some _ q
  rcases q1 with ⟨a, xs, rfl, hx, q⟩ | ⟨a, xs, rfl, hx, q⟩
  · cases r1
    obtain ⟨its, r, ht, hz⟩ := I5.list hx
    have hlen := r.length
    show wpAny (model X.prog X.w) X.A (subscriptTail e (backSl k p1 p2 p3) (.ref a) (.ref s4.heap.objs.size)) (EP X pins σ Q) X.xe _
    refine tail_any (ops := [.ref a, .ref s4.heap.objs.size]) ht.isList.typeIs (PySem.slot_list_getitem.lookup) ?_ (by with_unfolding_all rfl)
    refine wpAny_getItem_list_slice ht.isList (Heap.IsSliceOf.new _ vl vu vs) pl pu ps (by decide) ?_ (by simp; omega)
    rw [PySem.W.krv_pick]
    refine ⟨.ref _, _, I5.laid (t' := s4.toks) (o := .lst xs.reverse) (fun b ob q => Heap.get?_push_of_some _ q) (Nat.le_refl _) ?_, rfl, q _ (I5.hok.fresh (Nat.le_refl _))⟩
    exact ⟨by simpa using hz, _, 0, r.reverse, Heap.get?_push_size _ rfl⟩
  · cases r1
    obtain ⟨its, r, ht, hz⟩ := I5.tuple hx
    have hlen := r.length
    show wpAny (model X.prog X.w) X.A (subscriptTail e (backSl k p1 p2 p3) (.ref a) (.ref s4.heap.objs.size)) (EP X pins σ Q) X.xe _
    refine tail_any (ops := [.ref a, .ref s4.heap.objs.size]) ht.typeIs (PyProof.Rows.slot_tuple_getitem.lookup) ?_ (by with_unfolding_all rfl)
    refine tup_back ht (Heap.IsSliceOf.new _ vl vu vs) pl pu ps ?_ (by simp; omega)
    refine ⟨.ref _, _, I5.laid (t' := s4.toks) (o := .tup xs.reverse) (fun b ob q => Heap.get?_push_of_some _ q) (Nat.le_refl _) ?_, rfl, q _ (I5.hok.fresh (Nat.le_refl _))⟩
    exact ⟨by simpa using hz, _, by simpa using r.reverse, IsTup.new _ _⟩
section
variable {N : Nm} {X : Cx} {T : List (Addr × Str)} {Wx : WX} {f g h : TT.Env → Sto → TT.R W} {a b d : Expr} {pos : Pos}
theorem pe_rev {fz : Bool} {x : TT.E} {k : Nat} {p1 p2 p3 : Pos} (c : TT.Cxt) (ha : PE X a (cE N X.K T Wx (TT.evE c x))) : PE X (.Subscript a (backSl k p1 p2 p3) pos) (cE N X.K T Wx (TT.evE c (.rev fz x))) :=
  PEw (pe_rv ha) fun σ H Q ⟨L, e, s, re, rs, o⟩ => by
    simp only [TT.evE] at o
    refine cE_then re rs o fun w L1 H1 s1 v p1 re1 rs1 rv o1 => ?_
    split at o1
    · obtain ⟨b, xs, rfl, hb, r⟩ := RepD.tup_inv rv
      exact .inr ⟨b, xs, rfl, hb.seq, fun p hp => fin_tup (fz := fz) rs1 o1 r.rev hp⟩
    · split at o1
      · rename_i ds e1
        obtain ⟨b, xs, rfl, hb, r⟩ := lstM_rep rs1 rv e1
        exact .inl ⟨b, xs, rfl, SqL.of hb, fun p hp => fin_fl' rs1 o1 r.rev hp⟩
      · exact False.elim o1
/-! ### slices -/
def cO (N : Nm) (K : PySem.W.Frag) (T : List (Addr × Str)) (Wx : WX) (f : TT.Env → Sto → TT.R (Option Int)) : TO := fun σ H Q =>
  ∃ (L : Loc) (e : TT.Env) (s : Sto), RelE N K L H σ e ∧ RelS N K T L H s ∧ Out N K T L H (fun i _ H' _ => Q i H') (fun c H' => Wx (.ref (N.ea K c)) none σ H') (f e s)
theorem POw {X : Cx} {e : Option Expr} {t t' : TO} (h : PO X e t) (w : ∀ σ H Q, t' σ H Q → t σ H Q) : PO X e t' := ⟨fun pins s σ H Q I q => h.run pins s σ H Q I (w σ H Q q)⟩
theorem po_n (c : TT.Cxt) : PO X none (cO N X.K T Wx (TT.evO c .nil)) := POw po_none fun σ H Q ⟨L, e, s, re, rs, o⟩ => o.here rs
theorem po_s {x : TT.E} {xs : TT.Es} (c : TT.Cxt) (ha : PE X a (cE N X.K T Wx (TT.evE c x))) : PO X (some a) (cO N X.K T Wx (TT.evO c (.cons x xs))) :=
  POw (po_some ha) fun σ H Q ⟨L, e, s, re, rs, o⟩ => by
    simp only [TT.evO] at o
    refine cE_then re rs o fun w L1 H1 s1 v p1 re1 rs1 rv o1 => ?_
    unfold TT.asI at o1
    split at o1
    · exact ⟨_, RepD.int_inv rv, o1.here rs1⟩
    · exact False.elim o1
theorem sIx_eq (n d : Nat) (o : Option Int) : TT.sIx n d o = HT.sIx n d o := by cases o <;> rfl
theorem cut_eq (xs : List L2.V) (l h : Option Int) : TT.cut xs l h = cutV xs l h := by
  unfold TT.cut cutV
  rw [sIx_eq, sIx_eq]
theorem cut_rep {K : PySem.W.Frag} {L : Loc} {H : Hp} {xs : List L2.V} {ds : List D} (r : RepDs N K L H xs ds) (l h : Option Int) : RepDs N K L H (cutV xs l h) (TT.cut ds l h) := by
  rw [← cut_eq]
  unfold TT.cut
  rw [r.len]
  exact (r.drop _).take _
theorem pe_slc {fz : Bool} {x : TT.E} {xl xh : TT.Es} {lo hi : Option Expr} {p2 : Pos} (c : TT.Cxt) (ha : PE X a (cE N X.K T Wx (TT.evE c x))) (hl : PO X lo (cO N X.K T Wx (TT.evO c xl))) (hh : PO X hi (cO N X.K T Wx (TT.evO c xh))) :
    PE X (.Subscript a (.Slice lo hi none p2) pos) (cE N X.K T Wx (TT.evE c (.slc fz x xl xh))) := by
  refine PEw (pe_slice (sl_tupA.or (sl_list.or sl_str)) ha hl hh) fun σ H Q ⟨L, e, s, re, rs, o⟩ => ?_
  simp only [TT.evE] at o
  refine cE_then re rs o fun w L1 H1 s1 v p1 re1 rs1 rv o1 => ⟨L1, e, s1, re1, rs1, (Out.bind o1).mono (fun l L2 H2 s2 p2 rs2 o2 => ⟨L2, e, s2, re1.pst p2, rs2, (Out.bind o2).mono (fun h L3 H3 s3 p3 rs3 o3 => ?_) fun _ _ x => x⟩) fun _ _ x => x⟩
  have rv3 := (rv.pst p2).pst p3
  split at o3
  · rename_i ds
    obtain ⟨b, xs, rfl, hb, r⟩ := RepD.tup_inv rv3
    refine .inl ⟨b, xs, rfl, hb.seq, fun hw => ?_, fun _ p hp => fin_tup (fz := fz) rs3 o3 (cut_rep r l h) hp⟩
    have e : TT.cut ds l h = ds := by
      unfold TT.cut
      rw [sIx_eq, sIx_eq, ← r.len, hw.1, hw.2]
      simp [r.len]
    rw [e] at o3
    exact o3.here rs3 _ rv3
  · split at o3
    · rename_i z hs
      have := small_le hs
      refine .inr (.inr ⟨z, RepD.str_inv rv3, by rw [sizeLine_eq]; omega, ?_⟩)
      have e : (⟨(TT.cut z.cps.toList l h).toArray⟩ : Str) = cutS z l h := by
        unfold TT.cut cutS
        rw [sIx_eq, sIx_eq]
        rfl
      rw [e] at o3
      exact o3.here rs3 _ (.str _)
    · exact False.elim o3
  · split at o3
    · rename_i ds e1
      obtain ⟨b, xs, rfl, hb, r⟩ := lstM_rep rs3 rv3 e1
      exact .inr (.inl ⟨b, xs, rfl, SqL.of hb, fun p hp => fin_fl' rs3 o3 (cut_rep r l h) hp⟩)
    · exact False.elim o3
end
end TS

set_option maxRecDepth 100000
/-! Attributes, methods, calls, new instances. -/
namespace TS
open PySem PySem.Spec PyProof.Rows L2
/-- what the names and classes of a program keep -/
structure NmOk (N : Nm) (K : PySem.W.Frag) : Prop where
  inj : ∀ i j, N.an i = N.an j → i = j
  dis : ∀ i m, N.an i ≠ N.mn m
  cls : ∀ c, c < N.cs.length → Cls K (N.ca K c)
  noat : ∀ c f, c < N.cs.length → f < N.as.length → NoAttr K (N.ca K c) (N.an f)
section
variable {N : Nm} {K : PySem.W.Frag} {T : List (Addr × Str)} {L L' : Loc} {H H' : Hp} {s : Sto}
theorem objOf_rep {v : L2.V} {w : W} {c : Nat} {ks : List Nat} {vs : List D} (z : RelS N K T L H s) (r : RepW N K L H v w) (h : TT.objOf s w = some (c, ks, vs)) :
    ∃ a dx fs, v = .ref a ∧ c < N.cs.length ∧ H a = some (.ins (N.ca K c) dx fs) ∧ fs.map (·.1) = ks.map N.an ∧ RepDs N K L H (fs.map (·.2)) vs := by
  cases w with
  | d x =>
    cases x <;> simp [TT.objOf] at h
    obtain ⟨rfl, rfl, rfl⟩ := h
    cases r with
    | obj hc n e f r => exact ⟨_, _, _, rfl, hc, e, f, r⟩
  | loc l =>
    obtain ⟨a, e, rfl⟩ := r
    simp only [TT.objOf] at h
    split at h
    · rename_i c' ks' vs' e'
      simp only [Option.some.injEq, Prod.mk.injEq] at h
      obtain ⟨rfl, rfl, rfl⟩ := h
      obtain ⟨b, f, _, m⟩ := z.loc e' (fun q => nomatch q)
      rw [e] at f; cases f
      cases m with
      | obj hc e f r => exact ⟨_, _, _, rfl, hc, e, f, r⟩
    · cases h
theorem fld_rep (ok : NmOk N K) {f : Nat} {d : D} : ∀ {fs : List (Str × L2.V)} {ks : List Nat} {vs : List D}, fs.map (·.1) = ks.map N.an → RepDs N K L H (fs.map (·.2)) vs → TT.look f ks vs = some d → ∃ v, fs.lookup (N.an f) = some v ∧ RepD N K L H v d
  | [], ks, vs, e, r, h => by
    cases ks with
    | nil => simp [TT.look] at h
    | cons k ks => simp at e
  | p :: fs, [], vs, e, r, h => by simp at e
  | p :: fs, k :: ks, [], e, r, h => by simp [TT.look] at h
  | (x, v) :: fs, k :: ks, d' :: vs, e, r, h => by
    simp only [List.map_cons, List.cons.injEq] at e
    cases r with
    | cons r t =>
      simp only [TT.look] at h
      have ex : x = N.an k := e.1
      by_cases q : k = f
      · rw [if_pos q] at h
        cases h
        refine ⟨v, ?_, r⟩
        rw [List.lookup_cons, ex, q]
        simp
      · rw [if_neg q] at h
        obtain ⟨u, h1, h2⟩ := fld_rep ok e.2 t h
        refine ⟨u, ?_, h2⟩
        rw [List.lookup_cons, ex]
        have ne : (N.an f == N.an k) = false := beq_eq_false_iff_ne.mpr fun z => q (ok.inj _ _ z).symm
        rw [ne]
        exact h1
theorem no_meth (ok : NmOk N K) {m : Nat} : ∀ {fs : List (Str × L2.V)} {ks : List Nat}, fs.map (·.1) = ks.map N.an → fs.lookup (N.mn m) = none
  | [], _, _ => rfl
  | (x, v) :: fs, [], e => by simp at e
  | (x, v) :: fs, k :: ks, e => by
    simp only [List.map_cons, List.cons.injEq] at e
    rw [List.lookup_cons]
    have ex : x = N.an k := e.1
    have ne : (N.mn m == x) = false := beq_eq_false_iff_ne.mpr fun z => ok.dis k m (by rw [← ex, z])
    rw [ne]
    exact no_meth ok e.2
end
/-- the promise of a def: it does what the small language says -/
def spF (N : Nm) (K : PySem.W.Frag) (T : List (Addr × Str)) (φ : List W → Sto → TT.R W) : Sp := fun vs H Q E =>
  ∃ (L : Loc) (ws : List W) (s : Sto), RepWs N K L H vs ws ∧ RelS N K T L H s ∧ Out N K T L H (okW N K Q) (fun c H' => E (.ref (N.ea K c)) none H') (φ ws s)
section
variable {N : Nm} {X : Cx} {T : List (Addr × Str)} {Wx : WX} {f g h : TT.Env → Sto → TT.R W} {a b d : Expr} {pos : Pos}
theorem pe_at {x : TT.E} {k : Nat} {m : Str} (ok : NmOk N X.K) (c : TT.Cxt) (ha : PE X a (cE N X.K T Wx (TT.evE c x))) (hb : noCall a = true) (hk : k < N.as.length) (hm : m = N.an k) : PE X (.Attribute a m pos) (cE N X.K T Wx (TT.evE c (.attr x k))) := by
  subst hm
  refine PEw (pe_fld ha (attr_base hb)) fun σ H Q ⟨L, e, s, re, rs, o⟩ => ?_
  simp only [TT.evE] at o
  refine cE_then re rs o fun w L1 H1 s1 v p1 re1 rs1 rv o1 => ?_
  split at o1
  · rename_i cl ks vs e1
    obtain ⟨p, dx, fs, rfl, hc, hp, en, r⟩ := objOf_rep rs1 rv e1
    cases e2 : TT.look k ks vs with
    | none => rw [e2] at o1; exact False.elim o1
    | some d =>
      rw [e2] at o1
      obtain ⟨u, h1, h2⟩ := fld_rep ok en r e2
      exact ⟨p, _, dx, fs, u, rfl, hp, ok.cls _ hc, ok.noat _ _ hc hk, h1, o1.here rs1 u h2⟩
  · exact False.elim o1
/-! ### methods of lists -/
def bmOf : TT.Op → Option (Str × String)
  | .append => some ("append", "list.append")
  | .pop => some ("pop", "list.pop")
  | .extend => some ("extend", "list.extend")
  | .index => some ("index", "list.index")
  | .count => some ("count", "list.count")
  | _ => none
theorem recv_ty {K : PySem.W.Frag} {o : TT.Op} {L : Loc} {H : Hp} {s : Sto} {v : L2.V} {w : W} (z : RelS N K T L H s) (r : RepW N K L H v w) (h : TT.recvOk o w s = true) : tyV K "list" v H := by
  have h' : (TT.lstOf s w).isSome = true := by
    unfold TT.recvOk at h
    split at h <;> first | exact h | cases h
  obtain ⟨ds, e⟩ := Option.isSome_iff_exists.mp h'
  obtain ⟨a, xs, rfl, hs, _⟩ := lstOf_rep z r e
  exact .inl ⟨rfl, xs, hs⟩
theorem bm0_then {K : PySem.W.Frag} {o : TT.Op} {fz : Bool} {x : TT.E} {r : L2.V → List L2.V → Hp → VK → Prop} (c : TT.Cxt)
    (hr : ∀ (fz : Bool) (L : Loc) (H : Hp) (s : Sto) (x : L2.V) (xs : List L2.V) (wx : W) (ws : List W) (Q : VK) (er : Nat → Hp → Prop), RelS N K T L H s → RepW N K L H x wx → RepWs N K L H xs ws →
      Out N K T L H (okW N K Q) er ((TT.opSem o (wx :: ws) s).bind (TT.fin fz)) → r x xs H Q)
    (σ : L2.St) (H : Hp) (Q : VK) (q : cE N K T Wx (TT.evE c (.bm fz o x .nil)) σ H Q) : tBM0 K "list" r (cE N K T Wx (TT.evE c x)) σ H Q := by
  obtain ⟨L, e, s, re, rs, q⟩ := q
  simp only [TT.evE, TT.evEs] at q
  refine cE_then re rs q fun w L1 H1 s1 v p1 re1 rs1 rv q1 => ?_
  split at q1
  · rename_i hc
    exact ⟨recv_ty rs1 rv hc, hr fz L1 H1 s1 v [] w [] Q _ rs1 rv .nil q1⟩
  · exact False.elim q1
theorem bm1_then {K : PySem.W.Frag} {o : TT.Op} {fz : Bool} {x : TT.E} {xs : TT.Es} {r : L2.V → List L2.V → Hp → VK → Prop} (c : TT.Cxt)
    (hr : ∀ (fz : Bool) (L : Loc) (H : Hp) (s : Sto) (x : L2.V) (xs : List L2.V) (wx : W) (ws : List W) (Q : VK) (er : Nat → Hp → Prop), RelS N K T L H s → RepW N K L H x wx → RepWs N K L H xs ws →
      Out N K T L H (okW N K Q) er ((TT.opSem o (wx :: ws) s).bind (TT.fin fz)) → r x xs H Q)
    (σ : L2.St) (H : Hp) (Q : VK) (q : cE N K T Wx (TT.evE c (.bm fz o x xs)) σ H Q) : tBM K "list" r (cE N K T Wx (TT.evE c x)) (cA N K T Wx (TT.evEs c xs)) σ H Q := by
  obtain ⟨L, e, s, re, rs, q⟩ := q
  simp only [TT.evE] at q
  refine cE_then re rs q fun w L1 H1 s1 v p1 re1 rs1 rv q1 => ?_
  split at q1
  · rename_i hc
    exact ⟨recv_ty rs1 rv hc, evs_then c re1 rs1 q1 fun ws L2 H2 s2 vs _ p2 re2 rs2 rw2 q2 => hr fz L2 H2 s2 v vs w ws Q _ rs2 (rv.pst p2) rw2 q2⟩
  · exact False.elim q1
theorem pe_pop {fz : Bool} {x : TT.E} {apos : Pos} (c : TT.Cxt) (ha : PE X a (cE N X.K T Wx (TT.evE c x))) (hb : noCall a = true) (hl : (apos.endLine == pos.line) = true) :
    PE X (.Call (.Attribute a "pop" apos) [] [] pos) (cE N X.K T Wx (TT.evE c (.bm fz .pop x .nil))) := by
  obtain ⟨r, hm, hr⟩ := snd_pop (N := N) (X := X) (T := T)
  exact PEw (pe_bm0 PySem.F.plainAttrs_list PySem.F.slot_list_pop PySem.F.type_list_pop hm ha (attr_base hb) hl) (bm0_then (r := r) c hr)
theorem pe_bm1 {o : TT.Op} {m : Str} {q : String} {fz : Bool} {x : TT.E} {xs : TT.Es} {es : List Expr} {apos : Pos} (c : TT.Cxt) (slot : Slot "list" m q) (hty : typeOf (.builtin q) = pure (.type "method_descriptor")) (hk : SndM N X T q (fun x ws s => TT.opSem o (x :: ws) s))
    (ha : PE X a (cE N X.K T Wx (TT.evE c x))) (hx : PA X (b :: es) (cA N X.K T Wx (TT.evEs c xs))) (hb : noCall a = true) (hl : (apos.endLine == pos.line) = true) (hs : (b :: es).all noStar = true) (hn : es.length < 20) :
    PE X (.Call (.Attribute a m apos) (b :: es) [] pos) (cE N X.K T Wx (TT.evE c (.bm fz o x xs))) := by
  obtain ⟨r, hm, hr⟩ := hk
  have hs1 : noStar b = true := by
    simp only [List.all_cons, Bool.and_eq_true] at hs
    exact hs.1
  have hs2 : es.all noStar = true := by
    simp only [List.all_cons, Bool.and_eq_true] at hs
    exact hs.2
  refine PEw (pe_bm PySem.F.plainAttrs_list slot hty hm ha hx (attr_base hb) ?_ hl (star1 hs1) (back_any hs2)) (bm1_then (r := r) c hr)
  rw [back_all hs]
  simp [backToKw, keywordEach]
  omega
theorem pe_ap {fz : Bool} {x y : TT.E} {apos : Pos} (c : TT.Cxt) (ha : PE X a (cE N X.K T Wx (TT.evE c x))) (hx : PA X [b] (cA N X.K T Wx (TT.evEs c (.cons y .nil)))) (hb : noCall a = true) (hl : (apos.endLine == pos.line) = true) (hs : noStar b = true) :
    PE X (.Call (.Attribute a "append" apos) [b] [] pos) (cE N X.K T Wx (TT.evE c (.bm fz .append x (.cons y .nil)))) :=
  pe_bm1 c PySem.F.slot_list_append PySem.F.type_list_append snd_append ha hx hb hl (by simp [hs]) (by simp)
theorem pe_ex {fz : Bool} {x y : TT.E} {apos : Pos} (c : TT.Cxt) (ha : PE X a (cE N X.K T Wx (TT.evE c x))) (hx : PA X [b] (cA N X.K T Wx (TT.evEs c (.cons y .nil)))) (hb : noCall a = true) (hl : (apos.endLine == pos.line) = true) (hs : noStar b = true) :
    PE X (.Call (.Attribute a "extend" apos) [b] [] pos) (cE N X.K T Wx (TT.evE c (.bm fz .extend x (.cons y .nil)))) :=
  pe_bm1 c PySem.F.slot_list_extend PySem.F.type_list_extend snd_extend ha hx hb hl (by simp [hs]) (by simp)
theorem pe_idx {fz : Bool} {x y : TT.E} {apos : Pos} (c : TT.Cxt) (hu : X.A.units + 65 < cLine) (ha : PE X a (cE N X.K T Wx (TT.evE c x))) (hx : PA X [b] (cA N X.K T Wx (TT.evEs c (.cons y .nil)))) (hb : noCall a = true) (hl : (apos.endLine == pos.line) = true) (hs : noStar b = true) :
    PE X (.Call (.Attribute a "index" apos) [b] [] pos) (cE N X.K T Wx (TT.evE c (.bm fz .index x (.cons y .nil)))) :=
  pe_bm1 c PySem.F.slot_list_index PySem.F.type_list_index (snd_indexU hu) ha hx hb hl (by simp [hs]) (by simp)
theorem pe_cnt {fz : Bool} {x y : TT.E} {apos : Pos} (c : TT.Cxt) (ha : PE X a (cE N X.K T Wx (TT.evE c x))) (hx : PA X [b] (cA N X.K T Wx (TT.evEs c (.cons y .nil)))) (hb : noCall a = true) (hl : (apos.endLine == pos.line) = true) (hs : noStar b = true) :
    PE X (.Call (.Attribute a "count" apos) [b] [] pos) (cE N X.K T Wx (TT.evE c (.bm fz .count x (.cons y .nil)))) :=
  pe_bm1 c PySem.F.slot_list_count PySem.F.type_list_count snd_count ha hx hb hl (by simp [hs]) (by simp)
/-! ### calls -/
theorem pe_cl {k : Nat} {fa : Addr} {fd : FuncData} {ps : List Str} {x : Str} {n : Nat} {xs : TT.Es} {es : List Expr} {p : Pos} (c : TT.Cxt) (F : FnOk X.prog X.w X.K X.mg X.base (L2.CX X.prog X.w) k fa fd ps (spF N X.K T (c.F 0 n))) (hr : Room k X.A) (hg : Gl X x) (hm : X.mg x = some (.ref fa))
    (hk : PySem.W.keepIn X.K (.ref fa) = true) (hb : Binds X.K fd ps []) (tk : L2.Takes X Wx) (ha : PA X (a :: es) (cA N X.K T Wx (TT.evEs c xs))) (hd : (x == ("__debug__" : Str)) = false) (hs : (a :: es).all noStar = true) :
    PE X (.Call (.Name x p) (a :: es) [] pos) (cE N X.K T Wx (TT.evE c (.call n xs))) := by
  simp only [List.all_cons, Bool.and_eq_true] at hs
  refine PEw (pe_callS F hr hg hm hk hb (fun σ => L2.passAt tk σ) ha hd (star1 hs.1) (back_any hs.2)) fun σ H Q ⟨L, e, s, re, rs, o⟩ => ?_
  simp only [TT.evE] at o
  exact evs_then c re rs o fun ws L1 H1 s1 vs _ p1 re1 rs1 rv o1 => ⟨L1, ws, s1, rv, rs1, o1⟩
/-- f() -/
theorem pe_cl0 {k : Nat} {fa : Addr} {fd : FuncData} {ps : List Str} {x : Str} {n : Nat} {p : Pos} (c : TT.Cxt) (F : FnOk X.prog X.w X.K X.mg X.base (L2.CX X.prog X.w) k fa fd ps (spF N X.K T (c.F 0 n))) (hr : Room k X.A) (hg : Gl X x) (hm : X.mg x = some (.ref fa))
    (hk : PySem.W.keepIn X.K (.ref fa) = true) (hb : Binds X.K fd ps []) (tk : L2.Takes X Wx) (hd : (x == ("__debug__" : Str)) = false) :
    PE X (.Call (.Name x p) [] [] pos) (cE N X.K T Wx (TT.evE c (.call n .nil))) := by
  constructor
  intro pins s σ H Q I h
  obtain ⟨L, e, st, re, rs, o⟩ := h
  simp only [TT.evE, TT.evEs, TT.R.bind_ok] at o
  refine wpAny_Call_Name_kw (ld_glob I hg hm ?_ hd)
  exact PySem.W.callWith_K0 I.kIn hk (run_fnS (us := []) (vs := []) F hr hb (E := fun σ => WE Wx σ) (L2.passAt tk σ) I .nil ⟨L, [], st, .nil, rs, o⟩)
/-- what is known of the method m of a class: its def -/
structure MethAt (N : Nm) (X : Cx) (T : List (Addr × Str)) (k : Nat) (c : TT.Cxt) (cl m n : Nat) : Prop where
  ex : ∃ (fa : Addr) (fd : FuncData) (ps : List Str), Meth X.K (N.ca X.K cl) (N.mn m) fa ∧ FnOk X.prog X.w X.K X.mg X.base (L2.CX X.prog X.w) k fa fd ps (spF N X.K T (c.F 0 n)) ∧ Binds X.K fd ps []
/-- the way from an instance to its method -/
theorem mt_then {K : PySem.W.Frag} {x : TT.E} {xs : TT.Es} {m : Nat} {σ : L2.St} {H : Hp} {L : Loc} {e : TT.Env} {st : Sto} {Q : VK} {R : L2.V → Hp → Prop} (ok : NmOk N K) (c : TT.Cxt) (re : RelE N K L H σ e) (rs : RelS N K T L H st)
    (o : Out N K T L H (okW N K Q) (fun c H' => Wx (.ref (N.ea K c)) none σ H') (TT.evE c (.meth x m xs) e st))
    (q : ∀ (w : W) (L1 : Loc) (H1 : Hp) (s1 : Sto) (p : Addr) (cl n : Nat) (dx : Addr) (fs : List (Str × L2.V)), RelE N K L1 H1 σ e → RelS N K T L1 H1 s1 → RepW N K L1 H1 (.ref p) w → c.P.meth cl m = some n → cl < N.cs.length →
      H1 p = some (.ins (N.ca K cl) dx fs) → fs.lookup (N.mn m) = none → Out N K T L1 H1 (okW N K Q) (fun c H' => Wx (.ref (N.ea K c)) none σ H') ((TT.evEs c xs e s1).bind fun ws s => c.F 0 n (w :: ws) s) → R (.ref p) H1) : cE N K T Wx (TT.evE c x) σ H R := by
  simp only [TT.evE] at o
  refine cE_then re rs o fun w L1 H1 s1 v p1 re1 rs1 rv o1 => ?_
  split at o1
  · rename_i cl ks vs e1
    split at o1
    · rename_i n e2
      obtain ⟨pa, dx, fs, rfl, hc, hp, en, r⟩ := objOf_rep rs1 rv e1
      exact q w L1 H1 s1 pa cl n dx fs re1 rs1 rv e2 hc hp (no_meth ok en) o1
    · exact False.elim o1
  · exact False.elim o1
theorem pe_mt0 {k : Nat} {x : TT.E} {m : Nat} {mn : Str} {apos : Pos} (ok : NmOk N X.K) (c : TT.Cxt) (hmn : mn = N.mn m) (M : ∀ cl n, c.P.meth cl m = some n → MethAt N X T k c cl m n) (hr : Room k X.A) (tk : L2.Takes X Wx) (ha : PE X a (cE N X.K T Wx (TT.evE c x)))
    (h1 : noCall a = true) (h4 : (apos.endLine == pos.line) = true) : PE X (.Call (.Attribute a mn apos) [] [] pos) (cE N X.K T Wx (TT.evE c (.meth x m .nil))) := by
  subst hmn
  constructor
  intro pins s σ H Q I h
  obtain ⟨L, e, st, re, rs, o⟩ := h
  refine methcall_of ha I (pl := plainOf a X.env) ?_ (meth_form h1 rfl (by simp) h4)
  refine mt_then ok c re rs o fun w L1 H1 s1 pa cl n dx fs re1 rs1 rv e2 hc hp nm o1 => ?_
  obtain ⟨fa, fd, ps, hM, F, B⟩ := (M cl n e2).ex
  refine ⟨pa, _, dx, fs, fa, rfl, hp, ok.cls _ hc, hM, nm, fun s2 I2 => ?_⟩
  simp only [TT.evEs, TT.R.bind_ok] at o1
  exact PySem.W.callWith_K0 (first := [.ref pa]) I2.kIn hM.kp (run_fnS (us := [.ref pa]) (vs := [.ref pa]) F hr B (E := fun σ => WE Wx σ) (L2.passAt tk σ) I2 (.cons rfl .nil) ⟨L1, [w], s1, .cons rv .nil, rs1, o1⟩)
theorem pe_mt {k : Nat} {x : TT.E} {xs : TT.Es} {es : List Expr} {m : Nat} {mn : Str} {apos : Pos} (ok : NmOk N X.K) (c : TT.Cxt) (hmn : mn = N.mn m) (M : ∀ cl n, c.P.meth cl m = some n → MethAt N X T k c cl m n) (hr : Room k X.A) (tk : L2.Takes X Wx) (ha : PE X a (cE N X.K T Wx (TT.evE c x)))
    (hx : PA X (b :: es) (cA N X.K T Wx (TT.evEs c xs))) (h1 : noCall a = true) (h2 : (b :: es).all noStar = true) (h3 : es.length < 20) (h4 : (apos.endLine == pos.line) = true) :
    PE X (.Call (.Attribute a mn apos) (b :: es) [] pos) (cE N X.K T Wx (TT.evE c (.meth x m xs))) := by
  subst hmn
  constructor
  intro pins s σ H Q I h
  obtain ⟨L, e, st, re, rs, o⟩ := h
  refine methcall_of ha I (pl := plainOf a X.env) ?_ (meth_form h1 h2 (by simp; omega) h4)
  refine mt_then ok c re rs o fun w L1 H1 s1 pa cl n dx fs re1 rs1 rv e2 hc hp nm o1 => ?_
  obtain ⟨fa, fd, ps, hM, F, B⟩ := (M cl n e2).ex
  refine ⟨pa, _, dx, fs, fa, rfl, hp, ok.cls _ hc, hM, nm, fun s2 I2 => ?_⟩
  simp only [List.all_cons, Bool.and_eq_true] at h2
  refine PySem.W.callWith_K (first := [.ref pa]) (h₀ := X.base) I2.ok.mod.kin hM.kp ?_ (star1 h2.1) (back_any h2.2)
  refine thn (hx.run pos pins s2 σ H1 (fun us H2 => spF N X.K T (c.F 0 n) (.ref pa :: us) H2 Q (WE Wx σ)) I2
    (evs_then c re1 rs1 o1 fun ws' L2 H2 s4 us _ p2 re2 rs2 ru o2 => ⟨L2, w :: ws', s4, .cons (rv.pst p2) ru, rs2, o2⟩)) fun us s3 hq => ?_
  obtain ⟨vs', H2, I4, ru, sp⟩ := hq
  exact ⟨I4.kIn, run_fnS (us := .ref pa :: us) (vs := .ref pa :: vs') F hr B (E := fun σ => WE Wx σ) (L2.passAt tk σ) I4 (.cons rfl ru) sp⟩
/-! ### new instances -/
/-- C(..) at the slots σ: what may be let out is told of them -/
theorem make_at {CX : CXT} {k : Nat} {f C : Addr} {fd : FuncData} {ps : List Str} {sp : Sp} {E : XK} {pins : List (Addr × Obj)} {σ : L2.St} {H : Hp} {s : Shared} {Q : VK} {us : List Value} {vs : List L2.V} (M : Mk X.K C f) (F : FnOk X.prog X.w X.K X.mg X.base CX k f fd ps sp) (hr : Room (k + 1) X.A) (hb : Binds X.K fd ps [])
    (hx : PassesAt CX X σ E) (I : Inv X pins σ H s) (r : Vals vs us)
    (h : ∀ x dx, H x = none → H dx = none → dx ≠ x → sp (.ref x :: vs) (upd (upd H dx (.own x)) x (.ins C dx [])) (fun v H2 => v = .non ∧ Q (.ref x) H2) E) :
    wpAny (model X.prog X.w) X.A (call (.ref C) us) (EP X pins σ Q) X.xe s := by
  have n := s.heap.objs.size
  have q := h (s.heap.objs.size + 1) s.heap.objs.size (I.hok.fresh (Nat.le_succ _)) (I.hok.fresh (Nat.le_refl _)) (Nat.ne_of_lt (Nat.lt_succ_self _))
  have I2 := Inv.made (C := C) I
  have rr : Vals (V.ref (s.heap.objs.size + 1) :: vs) (Value.ref (s.heap.objs.size + 1) :: us) := .cons rfl r
  have ln : (Value.ref (s.heap.objs.size + 1) :: us).length = ps.length := by
    rw [← F.len _ _ _ _ q]
    exact rr.length.symm
  have bd := hb _ (Value.ref (s.heap.objs.size + 1) :: us) I2.kIn (by rw [List.append_nil]; exact ln)
  rw [List.append_nil] at bd
  have run := F.run _ X.stack _ _ ⟨Value.ref (s.heap.objs.size + 1) :: us, []⟩ (Value.ref (s.heap.objs.size + 1) :: us) _ _ E (hr.make C us []) (I2.env0.make C us []) bd rr q
  refine wpAny_call (make_map (f := f) I.kIn M.makes M.init (beq_iff_eq.mp M.fn) (codeAny_mono run fun r s' hq => ?_))
  cases r with
  | error e => exact hx pins _ _ e s' I2 hq
  | ok fl =>
    cases fl with
    | ret u =>
      obtain ⟨v, H', I3, rv, ev, q3⟩ := I2.after hq
      subst ev
      exact ⟨rv, ⟨V.ref (s.heap.objs.size + 1), H', I3, rfl, q3⟩⟩
    | next => exact False.elim hq
    | brk => exact False.elim hq
    | cont => exact False.elim hq
/-- the state where an instance is laid -/
theorem laid_ins {K : PySem.W.Frag} {L : Loc} {H : Hp} {s : Sto} {x dx : Addr} {cl : Nat} (rs : RelS N K T L H s) (hx : H x = none) (hd : H dx = none) (ne : dx ≠ x) (hc : cl < N.cs.length) :
    Pst L (L ++ [some x]) H (upd (upd H dx (.own x)) x (.ins (N.ca K cl) dx [])) ∧ RelS N K T (L ++ [some x]) (upd (upd H dx (.own x)) x (.ins (N.ca K cl) dx [])) (s ++ [.obj cl [] []]) := by
  have hx' : upd H dx (.own x) x = none := by rw [upd_ne ne.symm]; exact hx
  exact ⟨(Pst.new_ hd).trans (Pst.grow hx'), (rs.new_ hd).grow hx' (show isMut (.ins (N.ca K cl) dx []) from trivial) (.obj hc upd_same rfl .nil)⟩
theorem mem_dl {α : Type} {a : α} {l : List α} (h : a ∈ l.dropLast) : a ∈ l := List.dropLast_subset l h
theorem pe_nw {k : Nat} {cl : Nat} {fz : Bool} {n : Nat} {fi : Addr} {fd : FuncData} {ps : List Str} {x : Str} {xs : TT.Es} {es : List Expr} {p : Pos} (c : TT.Cxt) (hc : cl < N.cs.length) (hi : c.P.init cl = some n) (M : Mk X.K (N.ca X.K cl) fi)
    (F : FnOk X.prog X.w X.K X.mg X.base (L2.CX X.prog X.w) k fi fd ps (spF N X.K T (c.F 1 n))) (hr : Room (k + 1) X.A) (hg : Gl X x) (hm : X.mg x = some (.ref (N.ca X.K cl))) (hb : Binds X.K fd ps []) (tk : L2.Takes X Wx)
    (ha : PA X (a :: es) (cA N X.K T Wx (TT.evEs c xs))) (hd : (x == ("__debug__" : Str)) = false) (hs : (a :: es).all noStar = true) :
    PE X (.Call (.Name x p) (a :: es) [] pos) (cE N X.K T Wx (TT.evE c (.new fz cl xs))) := by
  simp only [List.all_cons, Bool.and_eq_true] at hs
  constructor
  intro pins s σ H Q I h
  obtain ⟨L, e, st, re, rs, o⟩ := h
  simp only [TT.evE, hi] at o
  refine wpAny_Call_Name_kw (ld_glob I hg hm ?_ hd)
  refine PySem.W.callWith_K (h₀ := X.base) I.ok.mod.kin M.kp ?_ (star1 hs.1) (back_any hs.2)
  refine thn (ha.run pos pins s σ H (fun vs H1 => ∀ x dx, H1 x = none → H1 dx = none → dx ≠ x → spF N X.K T (c.F 1 n) (.ref x :: vs) (upd (upd H1 dx (.own x)) x (.ins (N.ca X.K cl) dx [])) (fun v H2 => v = .non ∧ Q (.ref x) H2) (WE Wx σ)) I
    (evs_then c re rs o fun ws L1 H1 s1 vs _ p1 re1 rs1 rv o1 x dx hx hdx ne => ?_)) fun us s1 hq => ?_
  · obtain ⟨pp, rr⟩ := laid_ins (T := T) rs1 hx hdx ne hc
    refine ⟨L1 ++ [some x], .loc s1.length :: ws, s1 ++ [.obj cl [] []], .cons ⟨x, by rw [← rs1.len]; simp, rfl⟩ (rv.pst pp), rr, ?_⟩
    cases hr2 : c.F 1 n (.loc s1.length :: ws) (s1 ++ [.obj cl [] []]) with
    | no => rw [hr2] at o1; exact o1
    | err y s2 => rw [hr2] at o1; exact fun L2 H2 p2 rs2 => o1 L2 H2 (pp.trans p2) rs2
    | ok w s2 =>
    rw [hr2] at o1
    intro L2 H2 p2 rs2 v hv
    simp only [TT.R.bind_ok] at o1
    have o3 := o1
    split at o3
    · refine ⟨RepD.non_inv hv, ?_⟩
      have at_x : L2[s1.length]? = some (some x) := by
        obtain ⟨Y, e2⟩ := p2.pre
        rw [e2, ← rs1.len, List.append_assoc]
        simp
      cases fz with
      | false => exact o3 L2 H2 (pp.trans p2) rs2 (.ref x) ⟨x, at_x, rfl⟩
      | true =>
        simp only [if_true] at o3
        split at o3
        · rename_i hl
          split at o3
          · rename_i c' ks vs' e3
            obtain ⟨b, eb, mb, rm⟩ := rs2.loc e3 (fun q => nomatch q)
            rw [at_x] at eb; cases eb
            have len2 : L2.length = s1.length + 1 := by rw [rs2.len, hl]
            have eL : L2.dropLast = L1 := by
              obtain ⟨Y, e2⟩ := p2.pre
              have : Y = [] := by
                have := congrArg List.length e2
                rw [len2] at this
                simp [rs1.len] at this
                exact this
              rw [e2, this]
              simp
            cases rm with
            | obj hc' hh en rd =>
              have nin : some x ∉ L1 := fresh_notin rs1 hx
              have kp : Keeps L2 L1 H2 H2 := ⟨fun a _ na _ _ z => na (by rw [← eL] at z; exact mem_dl z), fun a o h _ _ => h⟩
              have p3 : Pst L1 L1 H1 H2 := by
                refine ⟨⟨[], by simp⟩, fun a h => .inl h, fun a o h na nt => ?_, (pp.trans p2).thr⟩
                by_cases ex : a = x
                · rw [ex, hx] at h; cases h
                · exact (pp.trans p2).fr a o h na nt
              have rs3 : RelS N X.K T L1 H2 s2.dropLast := by
                refine ⟨?_, fun l k a h1 h2 => ?_, fun a h => ?_, fun l m hm' nd => ?_, rs2.tabs⟩
                · rw [List.length_dropLast, hl, rs1.len]; rfl
                · rw [← eL] at h1 h2
                  rw [List.getElem?_dropLast] at h1 h2
                  split at h1 <;> split at h2 <;> first | exact rs2.uniq l k a h1 h2 | cases h1 | cases h2
                · exact rs2.there a (by rw [← eL] at h; exact mem_dl h)
                · rw [List.getElem?_dropLast] at hm'
                  split at hm'
                  · rename_i hlt
                    obtain ⟨a', ea, ra⟩ := rs2.at_ l m hm' nd
                    refine ⟨a', ?_, ra.keeps kp rfl⟩
                    rw [← eL, List.getElem?_dropLast, if_pos (by rw [len2]; omega)]
                    exact ea
                  · cases hm'
              exact o3 L1 H2 p3 rs3 (.ref x) (RepD.obj hc' nin hh en (rd.keeps kp))
          · exact False.elim o3
        · exact False.elim o3
    · exact False.elim o3
  · obtain ⟨vs, H1, I1, r, q⟩ := hq
    exact ⟨I1.kIn, make_at M F hr hb (L2.passAt tk σ) I1 r q⟩
end
end TS

set_option maxRecDepth 100000
/-! Instances of classes without an __init__. -/
namespace TS
open PySem PySem.Spec PyProof.Rows L2
/-- what a class without an __init__ must have to be made -/
structure Mk0 (K : PySem.W.Frag) (C : Addr) : Prop where
  makes : PySem.W.makesIn K C = true
  init : PySem.W.findIn K (.ref C) "__init__" = some (some (.builtin "object.__init__"))
  kp : PySem.W.keepIn K (.ref C) = true
theorem mk0_of {K : PySem.W.Frag} {C : Addr} (h : mk0B K C = true) : Mk0 K C := by
  unfold mk0B at h
  simp only [Bool.and_eq_true, decide_eq_true_eq] at h
  exact ⟨h.1, h.2.1, h.2.2⟩
theorem make_at0 {X : Cx} {C : Addr} {pins : List (Addr × Obj)} {σ : L2.St} {H : Hp} {s : Shared} {Q : VK} (M : Mk0 X.K C) (I : Inv X pins σ H s)
    (h : ∀ x dx, H x = none → H dx = none → dx ≠ x → Q (.ref x) (upd (upd H dx (.own x)) x (.ins C dx []))) :
    wpAny (model X.prog X.w) X.A (call (.ref C) []) (EP X pins σ Q) X.xe s := by
  have q := h (s.heap.objs.size + 1) s.heap.objs.size (I.hok.fresh (Nat.le_succ _)) (I.hok.fresh (Nat.le_refl _)) (Nat.ne_of_lt (Nat.lt_succ_self _))
  have I2 := Inv.made (C := C) I
  refine wpAny_call (make_map0 I.kIn M.makes M.init (fun self => PySem.W.Looks.of_pure (PySem.W.oi_bind self)) ?_)
  have Y := PySem.W.makes_of (M := model X.prog X.w) I.kIn M.makes
  have e2 : ((s.heap.push PySem.W.emptyDict).push (PySem.W.instObj C s.heap.objs.size)).get? (s.heap.objs.size + 1) = some (PySem.W.instObj C s.heap.objs.size) := by
    have := Heap.get?_push_size (s.heap.push PySem.W.emptyDict) (o := PySem.W.instObj C s.heap.objs.size) rfl
    rwa [Heap.size_push] at this
  have t1 : PySem.W.Looks (model X.prog X.w) ((s.heap.push PySem.W.emptyDict).push (PySem.W.instObj C s.heap.objs.size)) (typeOf (.ref (s.heap.objs.size + 1))) (.ref C) := (PySem.W.Looks.ld e2).andThen .now
  have t2 : PySem.W.Looks (model X.prog X.w) ((s.heap.push PySem.W.emptyDict).push (PySem.W.instObj C s.heap.objs.size)) (isInstance (.ref (s.heap.objs.size + 1)) (.type "object")) true := t1.andThen (Y.top.keeps fun b o e => Heap.get?_push_of_some _ (Heap.get?_push_of_some _ e))
  refine codeAny_call_builtin PySem.W.oi_plain PySem.W.entry_oi (@PySem.W.check_slot (model X.prog X.w) _ _ _ "object.__init__" "object" "__init__" (.ref (s.heap.objs.size + 1)) [] [] _ PySem.W.oi_kind PySem.W.oi_split t2 (PySem.W.oi_args (.ref (s.heap.objs.size + 1))) ?_)
  rw [PySem.W.oi_run]
  exact wpAny_pure (And.intro rfl ⟨V.ref (s.heap.objs.size + 1), _, I2, rfl, q⟩)
section
variable {N : Nm} {X : Cx} {T : List (Addr × Str)} {Wx : WX} {pos : Pos}
theorem pe_nw0 {cl : Nat} {x : Str} {p : Pos} (c : TT.Cxt) (hc : cl < N.cs.length) (M : Mk0 X.K (N.ca X.K cl)) (hg : Gl X x) (hm : X.mg x = some (.ref (N.ca X.K cl))) (hd : (x == ("__debug__" : Str)) = false) :
    PE X (.Call (.Name x p) [] [] pos) (cE N X.K T Wx (TT.evE c (.new0 cl))) := by
  constructor
  intro pins s σ H Q I h
  obtain ⟨L, e, st, re, rs, o⟩ := h
  simp only [TT.evE] at o
  refine wpAny_Call_Name_kw (ld_glob I hg hm ?_ hd)
  refine PySem.W.callWith_K0 I.kIn M.kp (make_at0 M I fun x dx hx hdx ne => ?_)
  have hx' : upd H dx (.own x) x = none := by rw [upd_ne ne.symm]; exact hx
  refine o L _ ((Pst.new_ hdx).trans (Pst.new_ hx')) ((rs.new_ hdx).new_ hx') (.ref x) ?_
  exact RepD.obj hc (fresh_notin rs hx) upd_same rfl .nil
end
end TS

set_option maxRecDepth 100000
/-! What is walked. -/
namespace TS
open PySem PySem.Spec PyProof.Rows L2
/-! ### enumerate of a tuple -/
set_option maxHeartbeats 1000000 in
theorem enum_new {v : Value} {o : Obj} {G : Heap → Prop} (B : Begins v o G) :
    Meets (Builtin.«enumerate.__new__» ⟨[.type "enumerate", v], []⟩) (fun _ R s => G s.heap ∧ R (.ok (.ret (.ref (s.heap.push o).objs.size)))
      { s with heap := (s.heap.push o).push { cls := .type "enumerate", data := .fields #[.none, .bool false, .ref s.heap.objs.size, rawInt 0, .none, .none] } }) :=
  .of_wp fun prog w A R s h => by
    obtain ⟨hp, g, d, tk, os⟩ := s
    obtain ⟨h1, h2⟩ := h
    have heir := sub_enumerate
    have q1 : ∀ {A' : Around} {E Q : Value → Shared → Prop}, Q (.ref hp.objs.size) ⟨hp.push o, g, d, tk, os⟩ → wpAny (model prog w) A' (pyIter v) Q E ⟨hp, g, d, tk, os⟩ :=
      fun q => B.iter prog w _ _ ⟨hp, g, d, tk, os⟩ _ h1 q
    wp_walk using q1
    refine wpAny_stack_any fun st => wpAny_pure ?_
    split
    · rename_i c _ _ _ _ _
      cases (c == Value.type "enumerate") <;>
        (wp_walk using q1
         exact ⟨_, rfl, h2⟩)
    · wp_walk using q1
      exact ⟨_, rfl, h2⟩
section
variable {prog : Program} {w : World} {A : Around} {E : Value → Shared → Prop} {s : Shared}
theorem enum_call {v : Value} {o : Obj} {G : Heap → Prop} {Q : Value → Shared → Prop} (B : Begins v o G) (h1 : G s.heap)
    (h : ∀ h', IsEnum h' (s.heap.objs.size + 1) s.heap.objs.size 0 .none → h'.get? s.heap.objs.size = some o → (∀ b o, s.heap.get? b = some o → h'.get? b = some o) → Q (.ref (s.heap.objs.size + 1)) { s with heap := h' }) :
    wpAny (model prog w) A (call (.type "enumerate") [v]) Q E s := by
  refine callType_new F.called_enumerate (by decide) (F.typeCall_enumerate_1 _) (F.newCall_enumerate_1 _) (fun obj => F.args_object_init_2 obj _) F.entry_enumerate_new (enum_new B) ⟨h1, ?_⟩
  have sz : (s.heap.push o).objs.size = s.heap.objs.size + 1 := Heap.size_push ..
  show _ ∧ _
  rw [sz]
  have he : IsEnum ((s.heap.push o).push { cls := .type "enumerate", data := .fields #[.none, .bool false, .ref s.heap.objs.size, rawInt 0, .none, .none] }) (s.heap.objs.size + 1) s.heap.objs.size 0 .none := by
    have q := Heap.get?_push_size (s.heap.push o) (o := { cls := .type "enumerate", data := .fields #[.none, .bool false, .ref s.heap.objs.size, rawInt 0, .none, .none] }) rfl
    rw [sz] at q
    exact q
  exact ⟨⟨_, he, rfl⟩, h _ he (Heap.get?_push_of_some _ (Heap.get?_push_size _ B.free)) fun b u x => Heap.get?_push_of_some _ (Heap.get?_push_of_some _ x)⟩
end
/-- (0, x), (1, y), .. of the tuple at a -/
def IteT (K : PySem.W.Frag) (a : Addr) : It :=
  ⟨fun i H => ∃ (xs : List L2.V) (x : L2.V), SqT K H a xs ∧ xs[i]? = some x, fun i H v H' => ∃ t x, v = .ref t ∧ H t = none ∧ H' = upd H t (.tup [.int (i : Nat), x]) ∧ ∀ xs, SqT K H a xs → xs[i]? = some x, fun i H => ∃ xs : List L2.V, SqT K H a xs ∧ xs.length = i⟩
theorem isTuple_of {h : Heap} {a : Addr} {its : Array Value} (p : IsTup h a its) : h.IsTuple a its := by
  obtain ⟨o, e, c, n, d⟩ := p
  exact ⟨o, e, c, n, d⟩
theorem turn_eT {P : Program} {w : World} {K : PySem.W.Frag} {elts : List Expr} {kk : Nat} {tpos : Pos} (a e it : Addr) :
    Turn P w K (.Tuple elts kk tpos) (IteT K a) [e, it] e (fun i h => (∃ old, IsEnum h e it ((i : Nat) : Int) old) ∧ h.IsTupleIter it a i ∧ e ≠ it ∧ a ≠ it ∧ a ≠ e) where
  mem := by simp
  obj := fun i h st b hb => by
    obtain ⟨⟨old, he⟩, ⟨o, ho, hc, hd⟩, _⟩ := st
    have q : b = e ∨ b = it := by simpa using hb
    rcases q with rfl | rfl
    · exact ⟨_, he, fun v q => nomatch q⟩
    · exact ⟨o, ho, fun v q => by rw [hd] at q; cases q⟩
  keep := fun i h h' st k => by
    obtain ⟨⟨old, he⟩, hi, hne⟩ := st
    exact ⟨⟨old, k e (by simp) _ he⟩, hi.at fun o q => k it (by simp) o q, hne⟩
  item := by
    intro X hP hw hK hc i pins s σ H E I hf st hg
    subst hP hw hK
    obtain ⟨⟨old, he⟩, hit, hne, hai, hae⟩ := st
    obtain ⟨xs, x, hq, hx⟩ := hg
    obtain ⟨its, rv, p, hz⟩ := I.tuple hq
    obtain ⟨u, hu, ru⟩ := rv.get hx
    have lt : i < its.toArray.size := by simpa using (List.getElem?_eq_some_iff.mp hu).1
    have hel : e < s.heap.objs.size := Heap.lt_size he
    have hil : it < s.heap.objs.size := by
      obtain ⟨_, q, _⟩ := hit
      exact Heap.lt_size q
    have D := Draws.tuple (prog := X.prog) (w := X.w) (A := X.A.in1) (I.ok.hd hc) it a hai its.toArray
    refine wpAny_pyNext_enum_itemD D he ⟨hit, isTuple_of p⟩ lt hne (by simp [hne, Ne.symm hae]) fun y h' tk hy ho hit' hT hsz hk => ?_
    have ey : y = u := by
      have e1 : its.toArray[i]? = some u := by simpa using hu
      rw [e1] at hy
      exact (Option.some.inj hy).symm
    subst ey
    refine ⟨_, rfl, wpAny_letOwnedTupleGo_enum (s := { s with heap := h', toks := tk + 1 }) ho fun h'' he' sb => ?_⟩
    have hT2 : h''.get? s.heap.objs.size = some { cls := .type "tuple", data := .seq #[.int i tk, y] } := (sb.2 _ (Nat.ne_of_gt hel)).trans hT
    have new : ObjOk X.prog X.w (upd H s.heap.objs.size (.tup [.int (i : Nat), x])) h'' s.heap.objs.size (.tup [.int (i : Nat), x]) :=
      ⟨by show 2 ≤ sizeLine; decide, [.int i tk, y], .cons ⟨_, rfl⟩ (.cons ru .nil), ⟨_, hT2, rfl, _, rfl⟩⟩
    have I1 : Inv X pins σ (upd H s.heap.objs.size (.tup [.int (i : Nat), x])) { s with heap := h'', toks := tk + 1 } :=
      I.turnedNew (ch := [e, it]) (fun b ob hb q => (sb.2 b (fun z => hb (by simp [z]))).trans (hk b ob (fun z => hb (by simp [z])) (fun z => hb (by simp [z])) q)) hf (Nat.le_refl _) new
    refine ⟨.ref s.heap.objs.size, _, I1, rfl, ⟨_, x, rfl, I.hok.fresh (Nat.le_refl _), rfl, fun ys hy => by rw [I.tuple_inj hy hq]; exact hx⟩, ⟨⟨y, ?_⟩, hit'.1.at fun o q => (sb.2 it (Ne.symm hne)).trans q, hne, hai, hae⟩, fun b hb => ?_⟩
    · have e1 : ((i + 1 : Nat) : Int) = (i : Int) + 1 := by omega
      rw [e1]; exact he'
    · have hb' : b < s.heap.objs.size := by
        have q : b = e ∨ b = it := by simpa using hb
        rcases q with rfl | rfl
        · exact hel
        · exact hil
      rw [upd_ne (Nat.ne_of_lt hb')]
      exact (hf b hb).1
  done := by
    intro X hP hw hK hc i pins s σ H E I hf st hg
    subst hP hw hK
    obtain ⟨⟨old, he⟩, hit, hne, hai, hae⟩ := st
    obtain ⟨xs, hq, hx⟩ := hg
    obtain ⟨its, rv, p, hz⟩ := I.tuple hq
    obtain ⟨f0, f1, f2, f3, f4, f5⟩ := hf it (by simp)
    have hl := rv.length
    have D := Draws.tuple (prog := X.prog) (w := X.w) (A := X.A.in1) (I.ok.hd hc) it a hai its.toArray
    have sz : its.toArray.size = i := by simp; omega
    refine wpAny_pyNext_enum_endD D he (by rw [sz]; exact ⟨hit, isTuple_of p⟩) fun h' eb => ⟨rfl, I.turned (t' := s.toks) (fun b o hb q => eb b o hb q) f0 f1 f3 f4 f5⟩
  self := fun A i s Q E st h => by
    obtain ⟨⟨_, he⟩, _⟩ := st
    exact wpAny_pyIter_enum he h
def iEnT (K : PySem.W.Frag) (te : TE) : TI := fun σ H R => te σ H fun v H1 => ∃ (a : Addr) (xs : List L2.V), v = .ref a ∧ ((SqL K H1 a xs ∧ R (Ite K a) H1) ∨ (SqT K H1 a xs ∧ R (IteT K a) H1))
theorem pi_eT {X : Cx} {e : Expr} {te : TE} {p pos tpos : Pos} {elts : List Expr} {kk : Nat} (hg : Gl X "enumerate") (hm : X.mg "enumerate" = none) (he : PE X e te) (hs : noStar e = true) :
    PI X (.Tuple elts kk tpos) (.Call (.Name "enumerate" p) [e] [] pos) (iEnT X.K te) := by
  constructor
  intro pins s σ H R I h
  refine Call_ (ld_blt I hg hm boot_enumerate (PyProof.Rows.callWith_type1 (args_cons (thn (he.run pins s σ H _ I h) fun u s1 hq => args_nil ?_) (star1 hs)) (star1 hs) rfl))
  obtain ⟨v, H1, I1, r1, a, xs, ev, q⟩ := hq
  subst ev
  obtain rfl : u = Value.ref a := r1
  have fpo : ∀ b ∈ [s1.heap.objs.size + 1, s1.heap.objs.size], FpOk X pins H1 b := fun b hb => by
    have q : b = s1.heap.objs.size + 1 ∨ b = s1.heap.objs.size := by simpa using hb
    have le : s1.heap.objs.size ≤ b := by rcases q with z | z <;> rw [z] <;> omega
    exact I1.fpOk le (I1.hok.fresh le)
  rcases q with ⟨hq, q⟩ | ⟨hq, q⟩
  · obtain ⟨its, rv, p', hz⟩ := I1.list hq
    refine call_enumerate_list p'.isList fun h' he hit hsz hk => wpAny_pyIter_enum he ?_
    exact ⟨s1.heap.objs.size + 1, [s1.heap.objs.size + 1, s1.heap.objs.size], _, _, H1, rfl, I1.kept (t' := s1.toks) hk, turn_enum a (s1.heap.objs.size + 1) s1.heap.objs.size, ⟨⟨.none, he⟩, hit, Nat.succ_ne_self _⟩, fpo, q⟩
  · obtain ⟨its, rv, p', hz⟩ := I1.tuple hq
    have la : a < s1.heap.objs.size := by
      obtain ⟨o, e1, _⟩ := p'
      exact Heap.lt_size e1
    refine enum_call (begins_tuple a its.toArray) (isTuple_of p') fun h' he hit hk => wpAny_pyIter_enum he ?_
    exact ⟨s1.heap.objs.size + 1, [s1.heap.objs.size + 1, s1.heap.objs.size], _, _, H1, rfl, I1.kept (t' := s1.toks) hk, turn_eT a (s1.heap.objs.size + 1) s1.heap.objs.size,
      ⟨⟨.none, he⟩, ⟨_, hit, rfl, rfl⟩, Nat.succ_ne_self _, Nat.ne_of_lt la, Nat.ne_of_lt (Nat.lt_succ_of_lt la)⟩, fpo, q⟩
end TS

set_option maxRecDepth 100000
/-! What is walked, as the small language has it; comprehensions. -/
namespace TS
open PySem PySem.Spec PyProof.Rows L2
/-- the walk J yields the things of g, wherever one has come to from L0, H0 -/
def Walks (N : Nm) (K : PySem.W.Frag) (T : List (Addr × Str)) (J : It) (L0 : Loc) (H0 : Hp) (g : TT.Its) : Prop :=
  ∀ (L : Loc) (H : Hp) (s : Sto), Pst L0 L H0 H → RelS N K T L H s → TT.still g s = true →
    (∀ (i : Nat) (d : D), g.1[i]? = some d → J.go i H ∧ ∀ x H', J.yld i H x H' → Pst L L H H' ∧ RelS N K T L H' s ∧ RepD N K L H' x d) ∧ J.stop g.1.length H
section
variable {N : Nm} {K : PySem.W.Frag} {T : List (Addr × Str)} {L L' : Loc} {H H' : Hp} {s : Sto}
theorem Walks.later {J : It} {g : TT.Its} (p : Pst L L' H H') (w : Walks N K T J L H g) : Walks N K T J L' H' g := fun L2 H2 s2 q z c => w L2 H2 s2 (p.trans q) z c
/-- a list that stays as it is -/
theorem walk_l {a : Addr} {ds : List D} {o : Option Nat} (h : ∀ (L' : Loc) (H' : Hp) (s' : Sto), Pst L L' H H' → RelS N K T L' H' s' → TT.still (ds, o) s' = true → ∃ xs, SqL K H' a xs ∧ RepDs N K L' H' xs ds) (inj : ∀ {H' : Hp} {xs ys : List L2.V}, True) : Walks N K T (Itl K a) L H (ds, o) := by
  intro L1 H1 s1 p z c
  obtain ⟨xs, hs, r⟩ := h L1 H1 s1 p z c
  refine ⟨fun i d e => ?_, ⟨xs, hs, Nat.le_of_eq r.len⟩⟩
  obtain ⟨v, e1, rv⟩ := r.get e
  refine ⟨⟨xs, v, hs, e1⟩, fun x H' y => ?_⟩
  obtain ⟨rfl, y⟩ := y
  have e2 := y xs hs
  rw [e1] at e2
  cases e2
  exact ⟨Pst.refl _ _, z, rv⟩
theorem walk_t {a : Addr} {xs : List L2.V} {ds : List D} {o : Option Nat} (h : TupF L H a xs) (r : RepDs N K L H xs ds) : Walks N K T (Itt K a) L H (ds, o) := by
  intro L1 H1 s1 p z c
  have h1 := (h.keeps p.keeps).seq (K := K)
  have r1 := r.keeps p.keeps
  refine ⟨fun i d e => ?_, ⟨xs, h1, Nat.le_of_eq r1.len⟩⟩
  obtain ⟨v, e1, rv⟩ := r1.get e
  refine ⟨⟨xs, v, h1, e1⟩, fun x H' y => ?_⟩
  obtain ⟨rfl, y⟩ := y
  have e2 := y xs h1
  rw [e1] at e2
  cases e2
  exact ⟨Pst.refl _ _, z, rv⟩
/-- what a value is walked by -/
theorem walkOf_rep {v : L2.V} {w : W} {g : TT.Its} (z : RelS N K T L H s) (r : RepW N K L H v w) (h : TT.walkOf s w = some g) :
    ∃ a, v = .ref a ∧ (((∃ xs, SqL K H a xs) ∧ Walks N K T (Itl K a) L H g) ∨ ((∃ xs, SqT K H a xs) ∧ Walks N K T (Itt K a) L H g)) := by
  cases w with
  | d x =>
    cases x <;> simp [TT.walkOf] at h
    · subst h
      obtain ⟨a, xs, rfl, h, r⟩ := RepD.tup_inv r
      exact ⟨a, rfl, .inr ⟨⟨xs, h.seq⟩, walk_t h r⟩⟩
    · subst h
      cases r with
      | lst n e r =>
        refine ⟨_, rfl, .inl ⟨⟨_, SqL.of e⟩, walk_l (fun L1 H1 s1 p _ _ => ⟨_, SqL.of (p.fr _ _ e n fun ps z => nomatch z), r.keeps p.keeps⟩) trivial⟩⟩
    · subst h
      cases r with
      | rol e r => exact ⟨_, rfl, .inl ⟨⟨_, e.seq⟩, walk_l (fun L1 H1 s1 p _ _ => ⟨_, (e.keeps p.keeps).seq, r.keeps p.keeps⟩) trivial⟩⟩
  | loc l =>
    obtain ⟨a, e, rfl⟩ := r
    simp only [TT.walkOf] at h
    split at h
    · rename_i ds e1
      cases h
      obtain ⟨b, f, _, m⟩ := z.loc e1 (fun q => nomatch q)
      rw [e] at f; cases f
      cases m with
      | lst e2 r =>
        refine ⟨a, rfl, .inl ⟨⟨_, SqL.of e2⟩, walk_l (fun L1 H1 s1 p z1 c => ?_) trivial⟩⟩
        simp only [TT.still] at c
        split at c
        · rename_i es e3
          have e4 := of_decide_eq_true c
          subst e4
          obtain ⟨b, f, _, m⟩ := z1.loc e3 (fun q => nomatch q)
          have e5 : L1[l]? = some (some a) := by
            obtain ⟨Y, rfl⟩ := p.pre
            rw [List.getElem?_append_left (List.getElem?_eq_some_iff.mp e).1]
            exact e
          rw [e5] at f; cases f
          cases m with
          | lst e6 r6 => exact ⟨_, SqL.of e6, r6⟩
        · cases c
    · cases h
theorem walk_r (i j : Int) : Walks N K T (Itr i (j - i).toNat) L H (TT.rngD i j, none) := by
  intro L1 H1 s1 p z c
  have ln : (TT.rngD i j).length = (j - i).toNat := by simp [TT.rngD]
  refine ⟨fun k d e => ?_, by rw [ln]; exact Nat.le_refl _⟩
  have hk : k < (j - i).toNat := by rw [← ln]; exact (List.getElem?_eq_some_iff.mp e).1
  refine ⟨hk, fun x H' y => ?_⟩
  obtain ⟨rfl, rfl⟩ := y
  have ed : d = .int (i + (k : Int)) := by
    unfold TT.rngD at e
    rw [List.getElem?_map, List.getElem?_range hk] at e
    exact (Option.some.inj e).symm
  subst ed
  exact ⟨Pst.refl _ _, z, .int _⟩
theorem rev_at {α : Type} {xs : List α} {i : Nat} {d : α} (h : xs.reverse[i]? = some d) : i < xs.length ∧ xs[xs.length - 1 - i]? = some d := by
  have hi : i < xs.reverse.length := (List.getElem?_eq_some_iff.mp h).1
  rw [List.length_reverse] at hi
  rw [List.getElem?_reverse hi] at h
  exact ⟨hi, h⟩
theorem walk_vl {a : Addr} {xs : List L2.V} {ds : List D} (n : some a ∉ L) (h : H a = some (.lst xs)) (r : RepDs N K L H xs ds) : Walks N K T (Itv K a xs.length) L H (ds.reverse, none) := by
  intro L1 H1 s1 p z c
  have h1 : SqL K H1 a xs := SqL.of (p.fr _ _ h n fun ps z => nomatch z)
  have r1 := r.keeps p.keeps
  refine ⟨fun i d e => ?_, by simp [r.len, Itv]⟩
  obtain ⟨hi, e0⟩ := rev_at e
  obtain ⟨v, e1, rv⟩ := r1.get e0
  rw [← r.len] at e1 hi
  refine ⟨⟨hi, xs, v, h1, e1⟩, fun x H' y => ?_⟩
  obtain ⟨rfl, y⟩ := y
  have e2 := y xs h1
  rw [e1] at e2
  cases e2
  exact ⟨Pst.refl _ _, z, rv⟩
theorem walk_vt {a : Addr} {xs : List L2.V} {ds : List D} (h : TupF L H a xs) (r : RepDs N K L H xs ds) : Walks N K T (RT.ItvT K a xs.length) L H (ds.reverse, none) := by
  intro L1 H1 s1 p z c
  have h1 := (h.keeps p.keeps).seq (K := K)
  have r1 := r.keeps p.keeps
  refine ⟨fun i d e => ?_, by simp [r.len, RT.ItvT]⟩
  obtain ⟨hi, e0⟩ := rev_at e
  obtain ⟨v, e1, rv⟩ := r1.get e0
  rw [← r.len] at e1 hi
  refine ⟨⟨hi, xs, v, h1, e1⟩, fun x H' y => ?_⟩
  obtain ⟨rfl, y⟩ := y
  have e2 := y xs h1
  rw [e1] at e2
  cases e2
  exact ⟨Pst.refl _ _, z, rv⟩
theorem enum_len : ∀ (n : Nat) (ds : List D), (TT.enumD n ds).length = ds.length
  | _, [] => rfl
  | n, d :: ds => by simp [TT.enumD, enum_len (n + 1) ds]
theorem enum_at : ∀ (n : Nat) (ds : List D) (i : Nat) (d : D), (TT.enumD n ds)[i]? = some d → ∃ e, ds[i]? = some e ∧ d = .tup [.int ((n + i : Nat) : Int), e]
  | _, [], i, d, h => by simp [TT.enumD] at h
  | n, x :: ds, 0, d, h => by
    simp [TT.enumD] at h
    exact ⟨x, rfl, by simp [h]⟩
  | n, x :: ds, i + 1, d, h => by
    obtain ⟨e, h1, h2⟩ := enum_at (n + 1) ds i d (by simpa [TT.enumD] using h)
    refine ⟨e, by simpa using h1, ?_⟩
    rw [h2, show n + 1 + i = n + (i + 1) by omega]
theorem new_pair {t : Addr} {x : L2.V} {i : Nat} {e : D} (z : RelS N K T L H s) (ht : H t = none) (r : RepD N K L H x e) :
    Pst L L H (upd H t (.tup [.int (i : Nat), x])) ∧ RelS N K T L (upd H t (.tup [.int (i : Nat), x])) s ∧ RepD N K L (upd H t (.tup [.int (i : Nat), x])) (.ref t) (.tup [.int ((i : Nat) : Int), e]) :=
  ⟨Pst.new_ ht, z.new_ ht, .tup ⟨fresh_notin z ht, upd_same⟩ (.cons (.int _) (.cons (r.keeps (Pst.new_ ht).keeps) .nil))⟩
theorem walk_el {a : Addr} {xs : List L2.V} {ds : List D} (n : some a ∉ L) (h : H a = some (.lst xs)) (r : RepDs N K L H xs ds) : Walks N K T (Ite K a) L H (TT.enumD 0 ds, none) := by
  intro L1 H1 s1 p z c
  have h1 : SqL K H1 a xs := SqL.of (p.fr _ _ h n fun ps z => nomatch z)
  have r1 := r.keeps p.keeps
  refine ⟨fun i d e => ?_, ⟨xs, h1, by rw [enum_len, r.len]; exact Nat.le_refl _⟩⟩
  obtain ⟨e', e0, rfl⟩ := enum_at 0 ds i d e
  obtain ⟨v, e1, rv⟩ := r1.get e0
  refine ⟨⟨xs, v, h1, e1⟩, fun x H' y => ?_⟩
  obtain ⟨t, u, rfl, ht, rfl, y⟩ := y
  have e2 := y xs h1
  rw [e1] at e2
  cases e2
  rw [Nat.zero_add]
  exact new_pair z ht rv
theorem walk_et {a : Addr} {xs : List L2.V} {ds : List D} (h : TupF L H a xs) (r : RepDs N K L H xs ds) : Walks N K T (IteT K a) L H (TT.enumD 0 ds, none) := by
  intro L1 H1 s1 p z c
  have h1 := (h.keeps p.keeps).seq (K := K)
  have r1 := r.keeps p.keeps
  refine ⟨fun i d e => ?_, ⟨xs, h1, by rw [enum_len, r.len]⟩⟩
  obtain ⟨e', e0, rfl⟩ := enum_at 0 ds i d e
  obtain ⟨v, e1, rv⟩ := r1.get e0
  refine ⟨⟨xs, v, h1, e1⟩, fun x H' y => ?_⟩
  obtain ⟨t, u, rfl, ht, rfl, y⟩ := y
  have e2 := y xs h1
  rw [e1] at e2
  cases e2
  rw [Nat.zero_add]
  exact new_pair z ht rv
end
/-! ### the iterables -/
def cI (N : Nm) (K : PySem.W.Frag) (T : List (Addr × Str)) (Wx : WX) (f : TT.Env → Sto → TT.R TT.Its) : TI := fun σ H R =>
  ∃ (L : Loc) (e : TT.Env) (s : Sto), RelE N K L H σ e ∧ RelS N K T L H s ∧ Out N K T L H (fun g L' H' _ => ∀ J, Walks N K T J L' H' g → R J H') (fun c H' => Wx (.ref (N.ea K c)) none σ H') (f e s)
theorem PIw {X : Cx} {tg e : Expr} {t t' : TI} (h : PI X tg e t) (w : ∀ σ H R, t' σ H R → t σ H R) : PI X tg e t' := ⟨fun pins s σ H R I q => h.run pins s σ H R I (w σ H R q)⟩
/-- a list or a tuple -/
def iSq (K : PySem.W.Frag) (te : TE) : TI := fun σ H R => te σ H fun x H1 => ∃ a, x = .ref a ∧ (((∃ xs, SqL K H1 a xs) ∧ R (Itl K a) H1) ∨ ((∃ xs, SqT K H1 a xs) ∧ R (Itt K a) H1))
theorem pi_sq {X : Cx} {tg e : Expr} {te : TE} (h : PE X e te) : PI X tg e (iSq X.K te) := by
  constructor
  intro pins s σ H R I q
  refine thn (h.run pins s σ H _ I q) fun v s1 hq => ?_
  obtain ⟨x, H1, I1, r1, a, rfl, q1⟩ := hq
  cases r1
  have fpo : ∀ b ∈ [s1.heap.objs.size], FpOk X pins H1 b := fun b hb => by
    have e : b = s1.heap.objs.size := by simpa using hb
    subst e
    exact I1.fpOk (Nat.le_refl _) (I1.hok.fresh (Nat.le_refl _))
  rcases q1 with ⟨⟨xs, hs⟩, q⟩ | ⟨⟨xs, hs⟩, q⟩
  · obtain ⟨its, rv, p, hz⟩ := I1.list hs
    refine wpAny_pyIter_list p.isList ?_
    exact ⟨s1.heap.objs.size, [s1.heap.objs.size], _, _, H1, rfl, I1.kept (t' := s1.toks) (fun b o e => Heap.get?_push_of_some _ e), turn_list a _, ⟨_, Heap.get?_push_size _ rfl, rfl, rfl⟩, fpo, q⟩
  · obtain ⟨its, rv, p, hz⟩ := I1.tuple hs
    refine wpAny_pyIter_tuple (isTuple_of p) ?_
    exact ⟨s1.heap.objs.size, [s1.heap.objs.size], _, _, H1, rfl, I1.kept (t' := s1.toks) (fun b o e => Heap.get?_push_of_some _ e), turn_tuple a _, ⟨_, Heap.get?_push_size _ rfl, rfl, rfl⟩, fpo, q⟩
section
variable {N : Nm} {X : Cx} {T : List (Addr × Str)} {Wx : WX} {a b tg : Expr} {pos : Pos} {x y : TT.E}
theorem pi_s (c : TT.Cxt) (ha : PE X a (cE N X.K T Wx (TT.evE c x))) : PI X tg a (cI N X.K T Wx (TT.evI c (.seq x))) :=
  PIw (pi_sq ha) fun σ H R ⟨L, e, s, re, rs, o⟩ => by
    simp only [TT.evI] at o
    refine cE_then re rs o fun w L1 H1 s1 v p1 re1 rs1 rv o1 => ?_
    cases e1 : TT.walkOf s1 w with
    | none => rw [e1] at o1; exact False.elim o1
    | some g =>
      rw [e1] at o1
      obtain ⟨p, rfl, h⟩ := walkOf_rep rs1 rv e1
      rcases h with ⟨h, wk⟩ | ⟨h, wk⟩
      · exact ⟨p, rfl, .inl ⟨h, o1.here rs1 _ wk⟩⟩
      · exact ⟨p, rfl, .inr ⟨h, o1.here rs1 _ wk⟩⟩
theorem okR_ex {i : Int} (h : TT.okR i = true) : -(2 ^ 62) ≤ i ∧ i < 2 ^ 62 := by
  unfold TT.okR at h
  simp only [Bool.and_eq_true, decide_eq_true_eq] at h
  exact h
theorem asI_ok {w : W} {i : Int} (h : TT.asI w = some i) : w = .d (.int i) := by
  unfold TT.asI at h
  split at h
  · cases h; rfl
  · cases h
theorem pi_r1 {p : Pos} (hb : Gl X "range" ∧ X.mg "range" = none) (c : TT.Cxt) (ha : PE X a (cE N X.K T Wx (TT.evE c x))) (hs : noStar a = true) : PI X tg (.Call (.Name "range" p) [a] [] pos) (cI N X.K T Wx (TT.evI c (.rng1 x))) :=
  PIw (pi_range1 hb.1 hb.2 (pa_cons ha pa_nil (star1 hs)) (star1 hs)) fun σ H R ⟨L, e, s, re, rs, o⟩ => by
    simp only [TT.evI] at o
    refine cE_then re rs o fun w L1 H1 s1 v p1 re1 rs1 rv o1 => ?_
    split at o1
    · rename_i j e1
      split at o1
      · rename_i h
        obtain ⟨h1, h2⟩ := okR_ex h
        rw [asI_ok e1] at rv
        refine ⟨j, by rw [RepD.int_inv rv], h1, h2, ?_⟩
        have q := o1.here rs1 _ (walk_r 0 j)
        rw [Int.sub_zero] at q
        exact q
      · exact False.elim o1
    · exact False.elim o1
theorem pi_r2 {p : Pos} (hb : Gl X "range" ∧ X.mg "range" = none) (c : TT.Cxt) (ha : PE X a (cE N X.K T Wx (TT.evE c x))) (hb' : PE X b (cE N X.K T Wx (TT.evE c y))) (hs : noStar a = true) (hs' : noStar b = true) :
    PI X tg (.Call (.Name "range" p) [a, b] [] pos) (cI N X.K T Wx (TT.evI c (.rng2 x y))) := by
  have e1 : starEach [a, b] X.env = [(false, eval a X.env), (false, eval b X.env)] := by rw [star1 hs, star1 hs']; rfl
  have e2 : starEach [b] X.env = [(false, eval b X.env)] := star1 hs'
  refine PIw (pi_range2 hb.1 hb.2 (pa_cons ha (pa_cons hb' pa_nil (star1 hs')) (star1 hs)) e1 e2) fun σ H R ⟨L, e, s, re, rs, o⟩ => ?_
  simp only [TT.evI] at o
  refine cE_then re rs o fun w L1 H1 s1 v p1 re1 rs1 rv o1 => cE_then re1 rs1 o1 fun u L2 H2 s2 v2 p2 re2 rs2 ru o2 => ?_
  split at o2
  · rename_i i j e1 e2
    split at o2
    · rename_i h
      rw [Bool.and_eq_true] at h
      obtain ⟨h1, h2⟩ := okR_ex h.1
      obtain ⟨h3, h4⟩ := okR_ex h.2
      rw [asI_ok e1] at rv
      rw [asI_ok e2] at ru
      exact ⟨i, j, by rw [RepD.int_inv rv, RepD.int_inv ru], ⟨h1, h2, h3, h4⟩, o2.here rs2 _ (walk_r i j)⟩
    · exact False.elim o2
  · exact False.elim o2
theorem pi_en {p tpos : Pos} {elts : List Expr} {kk : Nat} (hb : Gl X "enumerate" ∧ X.mg "enumerate" = none) (c : TT.Cxt) (ha : PE X a (cE N X.K T Wx (TT.evE c x))) (hs : noStar a = true) :
    PI X (.Tuple elts kk tpos) (.Call (.Name "enumerate" p) [a] [] pos) (cI N X.K T Wx (TT.evI c (.enm x))) :=
  PIw (pi_eT hb.1 hb.2 ha hs) fun σ H R ⟨L, e, s, re, rs, o⟩ => by
    simp only [TT.evI] at o
    refine cE_then re rs o fun w L1 H1 s1 v p1 re1 rs1 rv o1 => ?_
    split at o1
    · cases rv with
      | lst n e1 r => exact ⟨_, _, rfl, .inl ⟨SqL.of e1, o1.here rs1 _ (walk_el n e1 r)⟩⟩
    · obtain ⟨b, xs, rfl, h, r⟩ := RepD.tup_inv rv
      exact ⟨_, _, rfl, .inr ⟨h.seq, o1.here rs1 _ (walk_et h r)⟩⟩
    · exact False.elim o1
theorem pi_rv {p : Pos} (hb : Gl X "reversed" ∧ X.mg "reversed" = none) (c : TT.Cxt) (ha : PE X a (cE N X.K T Wx (TT.evE c x))) (hs : noStar a = true) :
    PI X tg (.Call (.Name "reversed" p) [a] [] pos) (cI N X.K T Wx (TT.evI c (.revs x))) :=
  PIw (RT.pi_revA hb.1 hb.2 ha (star1 hs)) fun σ H R ⟨L, e, s, re, rs, o⟩ => by
    simp only [TT.evI] at o
    refine cE_then re rs o fun w L1 H1 s1 v p1 re1 rs1 rv o1 => ?_
    split at o1
    · cases rv with
      | lst n e1 r => exact ⟨_, _, rfl, .inl ⟨SqL.of e1, o1.here rs1 _ (walk_vl n e1 r)⟩⟩
    · obtain ⟨b, xs, rfl, h, r⟩ := RepD.tup_inv rv
      exact ⟨_, _, rfl, .inr ⟨h.seq, o1.here rs1 _ (walk_vt h r)⟩⟩
    · exact False.elim o1
end
end TS

set_option maxRecDepth 100000
/-! Targets; list comprehensions. -/
namespace TS
open PySem PySem.Spec PyProof.Rows L2
section
variable {N : Nm} {K : PySem.W.Frag} {T : List (Addr × Str)} {L L' : Loc} {H H' : Hp} {s : Sto} {σ : L2.St} {e : TT.Env}
theorem RelE.set {v : L2.V} {w : W} (i : Nat) (r : RelE N K L H σ e) (h : RepW N K L H v w) : RelE N K L H (σ.set i (some v)) (e.set i (some w)) := by
  refine ⟨by simp [r.len], fun j u q => ?_⟩
  rw [List.getElem?_set] at q
  split at q
  · rename_i ij
    subst ij
    split at q
    · rename_i hl
      cases q
      refine ⟨v, ?_, h⟩
      rw [List.getElem?_set_self (by rw [← r.len]; exact hl)]
    · cases q
  · rename_i ij
    obtain ⟨x, h1, h2⟩ := r.at_ j u q
    exact ⟨x, by rw [List.getElem?_set_ne ij]; exact h1, h2⟩
theorem killE_at : ∀ (ks : List Nat) (e : TT.Env) (j : Nat) (u : W), (TT.killE ks e)[j]? = some (some u) → e[j]? = some (some u) ∧ j ∉ ks
  | [], e, j, u, h => ⟨h, by simp⟩
  | k :: ks, e, j, u, h => by
    have h : (TT.killE ks (e.set k none))[j]? = some (some u) := h
    obtain ⟨h1, h2⟩ := killE_at ks _ j u h
    rw [List.getElem?_set] at h1
    split at h1
    · split at h1 <;> cases h1
    · rename_i ne
      exact ⟨h1, by simp only [List.mem_cons, not_or]; exact ⟨fun q => ne q.symm, h2⟩⟩
theorem killE_len : ∀ (ks : List Nat) (e : TT.Env), (TT.killE ks e).length = e.length
  | [], e => rfl
  | k :: ks, e => by
    show (TT.killE ks (e.set k none)).length = _
    rw [killE_len ks, List.length_set]
theorem RelE.kill (ks : List Nat) (r : RelE N K L H σ e) : RelE N K L H σ (TT.killE ks e) :=
  ⟨by rw [killE_len]; exact r.len, fun j u q => r.at_ j u (killE_at ks e j u q).1⟩
theorem wipe_out' {i : Nat} : ∀ {vs : List Nat}, i ∉ vs → (wipe σ vs)[i]? = σ[i]?
  | [], _ => rfl
  | v :: vs, h => by
    simp only [List.mem_cons, not_or] at h
    unfold wipe
    rw [List.getElem?_set_ne fun q => h.1 q.symm]
    exact wipe_out' h.2
theorem RelE.wipe (ks : List Nat) (r : RelE N K L H σ e) : RelE N K L H (wipe σ ks) (TT.killE ks e) :=
  ⟨by rw [killE_len, wipe_length]; exact r.len, fun j u q => by
    obtain ⟨h1, h2⟩ := killE_at ks e j u q
    obtain ⟨v, h3, h4⟩ := r.at_ j u h1
    exact ⟨v, by rw [wipe_out' h2]; exact h3, h4⟩⟩
theorem wipe_set {i : Nat} {x : Option L2.V} : ∀ {vs : List Nat}, i ∈ vs → wipe (σ.set i x) vs = wipe σ vs
  | [], h => by cases h
  | v :: vs, h => by
    unfold L2.wipe
    by_cases hv : i ∈ vs
    · rw [wipe_set hv]
    · have e : v = i := by
        rcases List.mem_cons.mp h with h | h
        · exact h.symm
        · exact absurd h hv
      subst e
      apply List.ext_getElem?
      intro j
      by_cases hj : v = j
      · subst hj
        by_cases hl : v < σ.length
        · rw [List.getElem?_set_self (by rw [wipe_length, List.length_set]; exact hl), List.getElem?_set_self (by rw [wipe_length]; exact hl)]
        · rw [List.getElem?_eq_none (by rw [List.length_set, wipe_length, List.length_set]; omega), List.getElem?_eq_none (by rw [List.length_set, wipe_length]; omega)]
      · rw [List.getElem?_set_ne hj, List.getElem?_set_ne hj]
        have aux : ∀ (ws : List Nat) (j : Nat), v ≠ j → (L2.wipe (σ.set v x) ws)[j]? = (L2.wipe σ ws)[j]? := by
          intro ws
          induction ws with
          | nil => intro j hj; exact List.getElem?_set_ne hj
          | cons w ws ih =>
            intro j hj
            unfold L2.wipe
            rw [List.getElem?_set, List.getElem?_set, ih j hj]
            simp [wipe_length]
        exact aux vs j hj
theorem wipe_wipe : ∀ (us vs : List Nat), (∀ i ∈ us, i ∈ vs) → wipe (wipe σ us) vs = wipe σ vs
  | [], vs, _ => rfl
  | u :: us, vs, h => by
    show wipe ((wipe σ us).set u none) vs = _
    rw [wipe_set (h u (by simp)), wipe_wipe us vs fun i hi => h i (by simp [hi])]
end
/-! ### targets -/
def setV : List Nat → List L2.V → L2.St → L2.St
  | i :: is, v :: vs, σ => setV is vs (σ.set i (some v))
  | _, _, σ => σ
def tgs : TT.Tg → List Nat
  | .nm i => [i]
  | .tp is => is
def gT (K : PySem.W.Frag) : TT.Tg → TG
  | .nm i => gName i
  | .tp is => fun v σ H Q => ∃ a xs, v = .ref a ∧ SqT K H a xs ∧ xs.length = is.length ∧ Q (setV is xs σ) H
/-- the names of a target, as they stand -/
structure TgNm (X : Cx) (x : Str) (i : Nat) : Prop where
  at_ : X.N[i]? = some x
  loc : L2.Loc X.env.scope x
  own : X.fn x = true ∨ X.env.scope.names.lookup x = some .local
inductive TgNms (X : Cx) : List Expr → List Nat → Prop
  | nil : TgNms X [] []
  | cons {x : Str} {p : Pos} {i : Nat} {es : List Expr} {is : List Nat} (h : TgNm X x i) (t : TgNms X es is) : TgNms X (.Name x p :: es) (i :: is)
def gsT : List Nat → TGs
  | [] => gNil
  | i :: is => gCons (gName i) (gsT is)
theorem TgNms.run {X : Cx} (hN : X.N.Nodup) : ∀ {es : List Expr} {is : List Nat}, TgNms X es is → PGs X es (gsT is)
  | _, _, .nil => pgs_nil
  | _, _, .cons h t => pgs_cons (pg_name hN h.at_ h.loc h.own) (TgNms.run hN t) rfl
theorem TgNms.each {X : Cx} {env : Env} : ∀ {es : List Expr} {is : List Nat}, TgNms X es is → (assignEach es env).length = is.length ∧ (assignEach es env).findIdx? (·.1) = none
  | _, _, .nil => ⟨rfl, rfl⟩
  | _, _, .cons (p := p) (x := x) h t => by
    obtain ⟨a, b⟩ := TgNms.each (env := env) t
    refine ⟨?_, ?_⟩
    · show (_ :: assignEach _ env).length = _
      simp [a]
    · show (((false, assign (.Name x p) env) :: assignEach _ env).findIdx? (·.1)) = none
      rw [List.findIdx?_cons]
      simp [b]
theorem gsT_of {Q : L2.St → Hp → Prop} {H : Hp} : ∀ {is : List Nat} {xs : List L2.V} {σ : L2.St}, xs.length = is.length → Q (setV is xs σ) H → gsT is xs σ H Q
  | [], [], σ, _, q => ⟨rfl, q⟩
  | [], _ :: _, _, h, _ => by simp at h
  | _ :: _, [], _, h, _ => by simp at h
  | i :: is, x :: xs, σ, h, q => ⟨x, xs, rfl, gsT_of (by simpa using h) q⟩
theorem pg_nm {X : Cx} {x : Str} {p : Pos} {i : Nat} (hN : X.N.Nodup) (h : TgNm X x i) : PG X (.Name x p) (gT X.K (.nm i)) := pg_name hN h.at_ h.loc h.own
theorem pg_tp {X : Cx} {es : List Expr} {is : List Nat} {k : Nat} {p : Pos} (hN : X.N.Nodup) (hc : X.calm = true) (h : TgNms X es is) : PG X (.Tuple es k p) (gT X.K (.tp is)) := by
  have e := h.each (env := X.env)
  have g := pg_tup (pos := p) (k := k) hc (h.run hN) e.1 e.2
  constructor
  intro pins s σ H v u Q I r q
  obtain ⟨a, xs, e1, e2, e3, q⟩ := q
  exact g.run pins s σ H v u Q I r ⟨a, xs, e1, e2, e3, gsT_of e3 q⟩
section
variable {N : Nm} {K : PySem.W.Frag} {T : List (Addr × Str)} {L L' : Loc} {H H' : Hp} {s : Sto} {σ : L2.St} {e e' : TT.Env}
theorem RelE.sets : ∀ {is : List Nat} {xs : List L2.V} {ds : List D} {σ : L2.St} {e : TT.Env}, RelE N K L H σ e → RepDs N K L H xs ds → RelE N K L H (setV is xs σ) (TT.setAll is ds e)
  | [], _, _, _, _, r, _ => by
    cases ‹RepDs N K L H _ _› <;> exact r
  | _ :: _, _, _, _, _, r, .nil => r
  | i :: is, _, _, _, _, r, .cons a t => RelE.sets (is := is) (r.set i a) t
theorem wipe_sets {vs : List Nat} : ∀ {is : List Nat} {xs : List L2.V} {σ : L2.St}, (∀ i ∈ is, i ∈ vs) → wipe (setV is xs σ) vs = wipe σ vs
  | [], [], _, _ => rfl
  | [], _ :: _, _, _ => rfl
  | _ :: _, [], _, _ => rfl
  | i :: is, x :: xs, σ, h => by
    show wipe (setV is xs (σ.set i (some x))) vs = _
    rw [wipe_sets (is := is) fun j hj => h j (by simp [hj]), wipe_set (h i (by simp))]
theorem tg_then {tg : TT.Tg} {v : L2.V} {w : W} {Q : L2.St → Hp → Prop} (re : RelE N K L H σ e) (rv : RepW N K L H v w) (h : TT.tgSem tg w e = some e')
    (q : ∀ σ', RelE N K L H σ' e' → (∀ vs : List Nat, (∀ i ∈ tgs tg, i ∈ vs) → wipe σ' vs = wipe σ vs) → Q σ' H) : gT K tg v σ H Q := by
  cases tg with
  | nm i =>
    simp only [TT.tgSem, Option.some.injEq] at h
    subst h
    exact q _ (re.set i rv) fun vs hv => wipe_set (hv i (by simp [tgs]))
  | tp is =>
    simp only [TT.tgSem] at h
    split at h
    · rename_i ds e1
      split at h
      · rename_i hl
        cases h
        unfold TT.tupOf at e1
        split at e1
        · cases e1
          obtain ⟨a, xs, rfl, h1, r⟩ := RepD.tup_inv rv
          exact ⟨a, xs, rfl, h1.seq, by rw [r.len, hl], q _ (re.sets r) fun vs hv => wipe_sets hv⟩
        · cases e1
      · cases h
    · cases h
/-! ### comprehensions -/
theorem Out.bind0 {α β : Type} {r : TT.R α} {f : α → Sto → TT.R β} {okb : β → Loc → Hp → Sto → Prop} {er : Nat → Hp → Prop} (h : Out N K T L H okb er (r.bind f)) : Out N K T L H (fun a _ _ s => Out N K T L H okb er (f a s)) er r := by
  cases r with
  | ok a s => exact fun _ _ _ _ => h
  | err c s => exact h
  | no => exact h
theorem Out.calm {α : Type} {r : TT.R α} {ok : α → Loc → Hp → Sto → Prop} {er er' : Nat → Hp → Prop} (h : Out N K T L H ok er r.calm) : Out N K T L H ok er' r := by
  cases r with
  | ok a s => exact h
  | err c s => exact False.elim h
  | no => exact h
theorem calm_bind {α β : Type} {r : TT.R α} {f : α → Sto → TT.R β} : (r.bind f).calm = r.calm.bind fun a s => (f a s).calm := by cases r <;> rfl
/-- what a thing of the store is, frozen -/
def frzM : M → Option D
  | .lst ds => some (.lst ds)
  | .dct t ks vs => some (.dct t ks vs)
  | .obj c ks vs => some (.obj c ks vs)
  | .dead => none
theorem RepM.frz {a : Addr} {m : M} {d : D} (n : some a ∉ L) (r : RepM N K L H a m) (h : frzM m = some d) : RepD N K L H (.ref a) d := by
  cases r with
  | lst e r => cases h; exact .lst n e r
  | dK e r => cases h; exact .dK n (.inl e) r
  | dT e r => cases h; exact .dT n (.inl e) r
  | d3 e => cases h; exact .d3 n (.inl e)
  | dN e k rk r => cases h; exact .dN n e k rk r
  | obj hc e f r => cases h; exact .obj hc n e f r
/-- from a store to one with fewer things -/
theorem RelS.sub (z : RelS N K T L H s) {s' : Sto} (len : L'.length = s'.length) (at_ : ∀ (l : Nat) (a : Addr), L'[l]? = some (some a) → L[l]? = some (some a))
    (h : ∀ (l : Nat) (m : M), s'[l]? = some m → m ≠ .dead → s[l]? = some m ∧ ∀ a, L[l]? = some (some a) → L'[l]? = some (some a)) : RelS N K T L' H s' := by
  have mem : ∀ a, some a ∈ L' → some a ∈ L := fun a q => by
    obtain ⟨l, e⟩ := List.mem_iff_getElem?.mp q
    exact List.mem_of_getElem? (at_ l a e)
  have k : Keeps L L' H H := ⟨fun a _ n _ _ q => n (mem a q), fun a u h _ _ => h⟩
  refine ⟨len, fun l j a h1 h2 => z.uniq l j a (at_ l a h1) (at_ j a h2), fun a q => z.there a (mem a q), fun l m q d => ?_, z.tabs⟩
  obtain ⟨h1, h2⟩ := h l m q d
  obtain ⟨a, e, r⟩ := z.at_ l m h1 d
  exact ⟨a, h2 a e, r.keeps k rfl⟩
theorem RelS.drop1 (z : RelS N K T L H s) : RelS N K T L.dropLast H s.dropLast := by
  refine z.sub (by simp [z.len]) (fun l a h => ?_) fun l m h d => ?_
  · rw [List.getElem?_dropLast] at h
    split at h
    · exact h
    · cases h
  · rw [List.getElem?_dropLast] at h
    split at h
    · rename_i hl
      refine ⟨h, fun a e => ?_⟩
      rw [List.getElem?_dropLast, if_pos (by rw [z.len]; exact hl)]
      exact e
    · cases h
theorem RelS.kill1 (z : RelS N K T L H s) (l : Nat) : RelS N K T (L.set l none) H (s.set l .dead) := by
  refine z.sub (by simp [z.len]) (fun j a h => ?_) fun j m h d => ?_
  · rw [List.getElem?_set] at h
    split at h
    · split at h <;> cases h
    · exact h
  · rw [List.getElem?_set] at h
    split at h
    · split at h
      · cases h; exact absurd rfl d
      · cases h
    · rename_i ne
      exact ⟨h, fun a e => by rw [List.getElem?_set_ne ne]; exact e⟩
theorem Pst.less {L0 : Loc} {H0 : Hp} (p : Pst L0 L H0 H) (pre : ∃ X, L' = L0 ++ X) (h : ∀ a, some a ∈ L' → some a ∈ L) : Pst L0 L' H0 H := ⟨pre, fun a q => p.new a (h a q), p.fr, p.thr⟩
theorem nin_drop {a : Addr} (z : RelS N K T L H s) {l : Nat} (e : L[l]? = some (some a)) (hl : l + 1 = L.length) : some a ∉ L.dropLast := fun q => by
  obtain ⟨j, f⟩ := List.mem_iff_getElem?.mp q
  rw [List.getElem?_dropLast] at f
  split at f
  · have := z.uniq l j a e f
    omega
  · cases f
theorem nin_kill {a : Addr} (z : RelS N K T L H s) {l : Nat} (e : L[l]? = some (some a)) : some a ∉ L.set l none := fun q => by
  obtain ⟨j, f⟩ := List.mem_iff_getElem?.mp q
  rw [List.getElem?_set] at f
  split at f
  · split at f <;> cases f
  · rename_i ne
    exact ne (z.uniq l j a e f)
theorem mem_drop {a : Addr} (h : some a ∈ L.dropLast) : some a ∈ L := List.dropLast_subset L h
theorem mem_kill {a : Addr} {l : Nat} (h : some a ∈ L.set l none) : some a ∈ L := by
  rcases List.mem_or_eq_of_mem_set h with h | h
  · exact h
  · cases h
theorem at_later {l : Nat} {a : Addr} (p : Pst L L' H H') (h : L[l]? = some (some a)) : L'[l]? = some (some a) := by
  obtain ⟨Y, rfl⟩ := p.pre
  rw [List.getElem?_append_left (List.getElem?_eq_some_iff.mp h).1]
  exact h
/-- a place between stays -/
theorem pre_at {L0 : Loc} {a : Addr} (e : ∃ X, L' = L0 ++ [some a] ++ X) : L'[L0.length]? = some (some a) := by
  obtain ⟨X, rfl⟩ := e
  simp
theorem pre_of {L0 : Loc} {a : Addr} {p : ∃ X, L' = L0 ++ X} (h : L'[L0.length]? = some (some a)) : ∃ X, L' = L0 ++ [some a] ++ X := by
  obtain ⟨X, rfl⟩ := p
  cases X with
  | nil => simp at h
  | cons x X => 
    simp at h
    subst h
    exact ⟨X, by simp⟩
end
/-- a clause's tests -/
inductive Tests (N : Nm) (X : Cx) (T : List (Addr × Str)) (c : TT.Cxt) : List Expr → TT.Es → Prop
  | nil : Tests N X T c [] .nil
  | one {b : Expr} {x : TT.E} (h : PT X b (cT N X.K T Wx0 (asT (TT.evE c x)))) : Tests N X T c [b] (.cons x .nil)
theorem Tests.run {N : Nm} {X : Cx} {T : List (Addr × Str)} {c : TT.Cxt} {bs : List Expr} {xs : TT.Es} (h : Tests N X T c bs xs) : PTs X bs (cT N X.K T Wx0 (TT.evC c xs)) := by
  cases h with
  | nil => exact ⟨fun pins s σ H Q I ⟨L, e, st, re, rs, o⟩ => pts_nil.run pins s σ H Q I (o.here rs)⟩
  | one h => exact ⟨fun pins s σ H Q I q => (pts_one h).run pins s σ H Q I q⟩
section
variable {N : Nm} {X : Cx} {T : List (Addr × Str)} {Wx : WX} {tg iter elt : Expr} {ifs : List Expr} {scope : Scope} {own : List (Str × Nat)} {pos : Pos}
/-- what is known of the parts of a comprehension, in its block -/
structure LcOk (N : Nm) (X : Cx) (T : List (Addr × Str)) (c : TT.Cxt) (tg : Expr) (ifs : List Expr) (elt : Expr) (t : TT.Tg) (es : TT.Es) (x : TT.E) : Prop where
  g : PG X tg (gT X.K t)
  t : PTs X ifs (cT N X.K T Wx0 (TT.evC c es))
  e : PE X elt (cE N X.K T Wx0 (TT.evE c x))
theorem lc_then {K : PySem.W.Frag} (c : TT.Cxt) (fz : Bool) (vs : List Nat) (t : TT.Tg) (it : TT.It) (es : TT.Es) (x : TT.E) (ht : ∀ i ∈ tgs t, i ∈ vs) (σ : L2.St) (H : Hp) (Q : VK)
    (h : cE N K T Wx (TT.evE c (.lc fz vs t it es x)) σ H Q) : tLc (cI N K T Wx (TT.evI c it)) (gT K t) (cT N K T Wx0 (TT.evC c es)) (cE N K T Wx0 (TT.evE c x)) vs σ H Q := by
  obtain ⟨L, e, s, re, rs, o⟩ := h
  simp only [TT.evE] at o
  refine ⟨L, e, s, re, rs, (Out.bind o).mono (fun g L1 H1 s1 p1 rs1 o1 J wk D hD => ?_) fun _ _ x => x⟩
  have re1 := re.pst p1
  let n := g.1.length
  have ln1 : s1.length = L1.length := rs1.len.symm
  refine ⟨fun i m H => ∃ (L2 : Loc) (s2 : Sto), i + m = n ∧ Pst L1 L2 H1 H ∧ L2[L1.length]? = some (some D) ∧ RelS N K T L2 H s2 ∧
    Out N K T L1 H1 (okW N K Q) (fun c H' => Wx (.ref (N.ea K c)) none σ H') ((TT.lcL (TT.lcF t (fun e s => TT.evC c es e s) (fun e s => TT.evE c x e s) (TT.killE vs e)) g s1.length (g.1.drop i) s2).bind fun _ s' => TT.finC fz s1.length s'), ⟨n, ?_⟩, ?_⟩
  · refine ⟨L1 ++ [some D], s1 ++ [.lst []], by simp, Pst.grow hD, by simp, rs1.grow hD (show isMut (.lst []) from trivial) (.lst upd_same .nil), by simpa using o1⟩
  rintro i m H2 ⟨L2, s2, him, p2, hD2, rs2, o2⟩
  have nL1 : some D ∉ L1 := fresh_notin rs1 hD
  cases hx : g.1.drop i with
  | nil =>
    left
    rw [hx] at o2
    simp only [TT.lcL] at o2
    split at o2
    · rename_i st
      have hi : i = g.1.length := by
        have := List.drop_eq_nil_iff.mp hx
        have : n = g.1.length := rfl
        omega
      refine ⟨by rw [hi]; exact (wk L2 H2 s2 p2 rs2 st).2, ?_⟩
      simp only [TT.R.bind_ok, TT.finC] at o2
      cases fz with
      | false =>
        exact (o2 L2 H2 p2 rs2) _ ⟨D, by rw [ln1]; exact hD2, rfl⟩
      | true =>
        simp only [if_true] at o2
        split at o2
        · rename_i hl
          split at o2
          · rename_i ds e3
            obtain ⟨b, eb, mb, rm⟩ := rs2.loc e3 (fun q => nomatch q)
            rw [ln1, hD2] at eb
            cases eb
            have hl2 : L1.length + 1 = L2.length := by rw [rs2.len, hl, ln1]
            have nin := nin_drop rs2 hD2 hl2
            have kp : Keeps L2 L2.dropLast H2 H2 := ⟨fun a _ na _ _ z => na (mem_drop z), fun a u h _ _ => h⟩
            have p3 : Pst L1 L2.dropLast H1 H2 := by
              refine p2.less ?_ fun a q => mem_drop q
              obtain ⟨Y, hY⟩ := p2.pre
              have : Y.length = 1 := by
                have := congrArg List.length hY
                simp at this
                omega
              obtain ⟨y, rfl⟩ := List.length_eq_one_iff.mp this
              exact ⟨[], by rw [hY]; simp⟩
            exact o2 L2.dropLast H2 p3 rs2.drop1 _ ((rm.keeps kp rfl).frz nin rfl)
          · exact False.elim o2
        · exact False.elim o2
    · exact False.elim o2
  | cons y ys =>
    right
    rw [hx] at o2
    simp only [TT.lcL] at o2
    split at o2
    · rename_i st
      have hy : g.1[i]? = some y := by
        have := congrArg (·[0]?) hx
        simpa using this
      have hys : g.1.drop (i + 1) = ys := by
        have := congrArg (List.drop 1) hx
        simpa [List.drop_drop, Nat.add_comm] using this
      have hi : i < n := (List.getElem?_eq_some_iff.mp hy).1
      obtain ⟨go, yl⟩ := (wk L2 H2 s2 p2 rs2 st).1 i y hy
      refine ⟨go, _, fun H' hN => ⟨m - 1, by omega, hN⟩, fun v H3 yv => ?_⟩
      obtain ⟨p3, rs3, rv⟩ := yl v H3 yv
      have p13 := p2.trans p3
      rw [TT.R.bind_assoc] at o2
      have o3 := (Out.bind0 o2).step p13
      unfold TT.lcF at o3
      have re3 := ((re1.pst p13).wipe vs)
      cases ht' : TT.tgSem t (.d y) (TT.killE vs e) with
      | none => simp only [ht'] at o3; exact False.elim o3
      | some e' =>
        simp only [ht'] at o3
        refine tg_then (w := .d y) re3 rv ht' fun σ3 re3' hw => ⟨?_, ?_⟩
        · have := hw vs ht
          rw [this, wipe_wipe vs vs fun i h => h]
        rw [calm_bind] at o3
        refine ⟨L2, e', s2, re3', rs3, (Out.bind o3).calm.mono (fun b L4 H4 s4 p4 rs4 o4 => ?_) fun _ _ x => x⟩
        have p14 := p13.trans p4
        cases b with
        | false =>
          simp only [Bool.false_eq_true, if_false] at o4 ⊢
          have o5 := o4.here rs4
          exact ⟨L4, s4, by omega, p14, at_later p4 (by rw [at_later p3 hD2]), rs4, by rw [hys]; exact o5⟩
        | true =>
          simp only [if_true] at o4 ⊢
          rw [calm_bind] at o4
          refine ⟨L4, e', s4, re3'.pst p4, rs4, (Out.bind o4).calm.mono (fun w L5 H5 s5 p5 rs5 o5 yv ryv => ?_) fun _ _ x => x⟩
          cases hw' : TT.asD w with
          | none => rw [hw'] at o5; exact False.elim o5
          | some z =>
            rw [hw'] at o5
            have o6 := o5.here rs5
            have ew : w = .d z := by
              unfold TT.asD at hw'
              split at hw'
              · cases hw'; rfl
              · cases hw'
            subst ew
            have hD5 := at_later p5 (at_later p4 (at_later p3 hD2))
            simp only [] at o6
            split at o6
            · rename_i acc e6
              split at o6
              · rename_i sm
                obtain ⟨b, eb, mb, rm⟩ := rs5.loc e6 (fun q => nomatch q)
                rw [ln1, hD5] at eb
                cases eb
                cases rm with
                | lst hh rr =>
                  refine ⟨_, hh, by rw [rr.len]; have := of_decide_eq_true sm; exact Nat.lt_of_le_of_lt this (by decide), L5, _, by omega, (p14.trans p5).trans (Pst.write mb), hD5, rs5.write (l := s1.length) (m := .lst (acc ++ [z])) (by rw [ln1]; exact hD5) (show isMut (.lst _) from trivial) ?_, ?_⟩
                  · exact .lst upd_same ((rr.app (.cons ryv .nil)).keeps (Pst.write mb).keeps)
                  · rw [hys]; exact o6
              · exact False.elim o6
            · exact False.elim o6
    · exact False.elim o2
/-- the list comprehension -/
theorem pe_lcm {c : TT.Cxt} {fz : Bool} {t : TT.Tg} {it : TT.It} {es : TT.Es} {x : TT.E} (hc : X.calm = true) (hN : X.N.Nodup) (hi : PI X tg iter (cI N X.K T Wx (TT.evI c it))) (ok : BlkOk X.N X.env.scope scope own) (ht : ∀ i ∈ tgs t, i ∈ own.map (·.2)) (hs : noSet iter = true)
    (hb : ∀ (s : Shared) (H : Hp) (C : Addr) (cl : List (Str × Addr)) (fp : List Addr), LcOk N (X.blk s H scope (compEnvC scope cl C X.env) fp) T c tg ifs elt t es x) :
    PE X (.ListComp elt [⟨tg, iter, ifs, 0⟩] scope pos) (cE N X.K T Wx (TT.evE c (.lc fz (own.map (·.2)) t it es x))) :=
  PEw (pe_lc hc hN hi ok (fun s H C cl fp => (hb s H C cl fp).g) (fun s H C cl fp => (hb s H C cl fp).t) (fun s H C cl fp => (hb s H C cl fp).e) (folded_no hs)) (lc_then c fz (own.map (·.2)) t it es x ht)
end
end TS

set_option maxRecDepth 100000
/-! Statements. -/
namespace TS
open PySem PySem.Spec PyProof.Rows L2
abbrev FE := TT.Fl × TT.Env
def flow (N : Nm) (K : PySem.W.Frag) (n : Nat) (D : Ends) : FE → Loc → Hp → Sto → Prop := fun p L H _ => match p.1 with
  | .nx => ∀ σ : L2.St, RelE N K L H σ p.2 → D.nx σ H
  | .brk => ∀ σ : L2.St, RelE N K L H σ p.2 → D.bk σ H
  | .cnt => ∀ σ : L2.St, RelE N K L H σ p.2 → D.ct σ H
  | .ret w => ∀ v, RepW N K L H v w → D.rt v H
abbrev erS (N : Nm) (K : PySem.W.Frag) (Wx : WX) : Nat → Hp → Prop := fun c H => ∀ σ : L2.St, Wx (.ref (N.ea K c)) none σ H
def cS (N : Nm) (K : PySem.W.Frag) (T : List (Addr × Str)) (Wx : WX) (F : Nat → TT.Env → Sto → TT.R FE) : TS := fun D σ H =>
  ∃ (L0 : Loc) (H0 : Hp) (L : Loc) (e : TT.Env) (s : Sto), Pst L0 L H0 H ∧ RelE N K L H σ e ∧ RelS N K T L H s ∧ Out N K T L0 H0 (flow N K 0 D) (erS N K Wx) (F L0.length e s)
theorem PSw {X : Cx} {st : Stmt} {t t' : TS} (h : PS X st t) (w : ∀ D σ H, t' D σ H → t D σ H) : PS X st t' := ⟨fun pins s σ H D I q => h.run pins s σ H D I (w D σ H q)⟩
theorem PSsw {X : Cx} {st : List Stmt} {t t' : TS} (h : PSs X st t) (w : ∀ D σ H, t' D σ H → t D σ H) : PSs X st t' := ⟨fun pins s σ H D I q => h.run pins s σ H D I (w D σ H q)⟩
section
variable {N : Nm} {X : Cx} {T : List (Addr × Str)} {Wx : WX} {f : TT.Env → Sto → TT.R W} {a b tg : Expr} {pos : Pos} {K : PySem.W.Frag} {L0 L : Loc} {H0 H : Hp} {σ : L2.St} {e : TT.Env} {s : Sto} {D : Ends}
/-- an expression, then more -/
theorem sE_then {k : W → Sto → TT.R FE} {Q : VK} (p0 : Pst L0 L H0 H) (re : RelE N K L H σ e) (rs : RelS N K T L H s) (o : Out N K T L0 H0 (flow N K 0 D) (erS N K Wx) ((f e s).bind k))
    (q : ∀ w L' H' s' v, Pst L0 L' H0 H' → Pst L L' H H' → RelE N K L' H' σ e → RelS N K T L' H' s' → RepW N K L' H' v w → Out N K T L0 H0 (flow N K 0 D) (erS N K Wx) (k w s') → Q v H') : cE N K T Wx f σ H Q :=
  ⟨L, e, s, re, rs, ((Out.bind0 o).step p0).mono (fun w L' H' s' p z o' v rv => q w L' H' s' v (p0.trans p) p (re.pst p) z rv o') fun _ _ h => h σ⟩
theorem sA_then {fa : TT.Env → Sto → TT.R (List W)} {k : List W → Sto → TT.R FE} {Q : List L2.V → Hp → Prop} (p0 : Pst L0 L H0 H) (re : RelE N K L H σ e) (rs : RelS N K T L H s) (o : Out N K T L0 H0 (flow N K 0 D) (erS N K Wx) ((fa e s).bind k))
    (q : ∀ ws L' H' s' vs, Pst L0 L' H0 H' → Pst L L' H H' → RelE N K L' H' σ e → RelS N K T L' H' s' → RepWs N K L' H' vs ws → Out N K T L0 H0 (flow N K 0 D) (erS N K Wx) (k ws s') → Q vs H') : cA N K T Wx fa σ H Q :=
  ⟨L, e, s, re, rs, ((Out.bind0 o).step p0).mono (fun w L' H' s' p z o' v rv => q w L' H' s' v (p0.trans p) p (re.pst p) z rv o') fun _ _ h => h σ⟩
theorem sT_then {k : Bool → Sto → TT.R FE} {Q : Bool → Hp → Prop} (p0 : Pst L0 L H0 H) (re : RelE N K L H σ e) (rs : RelS N K T L H s) (o : Out N K T L0 H0 (flow N K 0 D) (erS N K Wx) ((asT f e s).bind k))
    (q : ∀ w L' H' s', Pst L0 L' H0 H' → Pst L L' H H' → RelE N K L' H' σ e → RelS N K T L' H' s' → Out N K T L0 H0 (flow N K 0 D) (erS N K Wx) (k w s') → Q w H') : cT N K T Wx (asT f) σ H Q :=
  ⟨L, e, s, re, rs, ((Out.bind0 o).step p0).mono (fun w L' H' s' p z o' => q w L' H' s' (p0.trans p) p (re.pst p) z o') fun _ _ h => h σ⟩
theorem asT_bind {β : Type} {k : Bool → Sto → TT.R β} {r : TT.R W} {k' : W → Sto → TT.R β} (h : ∀ w s, k' w s = match TT.asB w with
    | some b => k b s
    | none => .no) : r.bind k' = ((r.bind fun w s => TT.R.of (TT.asB w) s).bind k) := by
  cases r with
  | ok w s =>
    simp only [TT.R.bind_ok]
    rw [h]
    cases TT.asB w <;> rfl
  | err _ _ => rfl
  | no => rfl
theorem flow_here {r : FE} (o : Out N K T L0 H0 (flow N K 0 D) (erS N K Wx) (.ok r s)) (p0 : Pst L0 L H0 H) (rs : RelS N K T L H s) : flow N K 0 D r L H s := o L H p0 rs
/-! ### plain statements -/
theorem ss_pass {c : TT.Cxt} : PS X (.Pass pos) (cS N X.K T Wx fun n => TT.evS c n .pass) := PSw ps_pass fun D σ H ⟨L0, H0, L, e, s, p, re, rs, o⟩ => by
  simp only [TT.evS] at o
  exact flow_here o p rs σ re
theorem ss_brk {c : TT.Cxt} : PS X (.Break pos) (cS N X.K T Wx fun n => TT.evS c n .brk) := PSw ps_break fun D σ H ⟨L0, H0, L, e, s, p, re, rs, o⟩ => by
  simp only [TT.evS] at o
  exact flow_here o p rs σ re
theorem ss_cnt {c : TT.Cxt} : PS X (.Continue pos) (cS N X.K T Wx fun n => TT.evS c n .cnt) := PSw ps_continue fun D σ H ⟨L0, H0, L, e, s, p, re, rs, o⟩ => by
  simp only [TT.evS] at o
  exact flow_here o p rs σ re
theorem ss_retN {c : TT.Cxt} : PS X (.Return none pos) (cS N X.K T Wx fun n => TT.evS c n .retN) := PSw ps_retN fun D σ H ⟨L0, H0, L, e, s, p, re, rs, o⟩ => by
  simp only [TT.evS] at o
  exact flow_here o p rs .non .non
theorem ss_ret {c : TT.Cxt} {x : TT.E} (h : PE X a (cE N X.K T Wx (TT.evE c x))) : PS X (.Return (some a) pos) (cS N X.K T Wx fun n => TT.evS c n (.ret x)) := PSw (ps_ret h) fun D σ H ⟨L0, H0, L, e, s, p, re, rs, o⟩ => by
  simp only [TT.evS] at o
  exact sE_then p re rs o fun w L' H' s' v p0 p1 re1 rs1 rv o1 => flow_here o1 p0 rs1 v rv
theorem ss_ex {c : TT.Cxt} {x : TT.E} (h : PE X a (cE N X.K T Wx (TT.evE c x))) (hc : noComp a = true) : PS X (.Expr a pos) (cS N X.K T Wx fun n => TT.evS c n (.ex x)) := PSw (ps_expr h (swaps_no hc)) fun D σ H ⟨L0, H0, L, e, s, p, re, rs, o⟩ => by
  simp only [TT.evS] at o
  exact sE_then p re rs o fun w L' H' s' v p0 p1 re1 rs1 rv o1 => flow_here o1 p0 rs1 σ re1
theorem ss_ite {c : TT.Cxt} {x : TT.E} {sa sb : List Stmt} {ya yb : TT.Ss} (h : PT X a (cT N X.K T Wx (asT (TT.evE c x)))) (ha : PSs X sa (cS N X.K T Wx fun n => TT.evSs c n ya)) (hb : PSs X sb (cS N X.K T Wx fun n => TT.evSs c n yb)) :
    PS X (.If a sa sb pos) (cS N X.K T Wx fun n => TT.evS c n (.ite x ya yb)) := PSw (ps_if h ha hb) fun D σ H ⟨L0, H0, L, e, s, p, re, rs, o⟩ => by
  simp only [TT.evS] at o
  rw [asT_bind (k := fun b s => if b then TT.evSs c L0.length ya e s else TT.evSs c L0.length yb e s) fun w s => by
    cases TT.asB w with
    | none => rfl
    | some b => cases b <;> rfl] at o
  refine sT_then p re rs o fun w L' H' s' p0 p1 re1 rs1 o1 => ?_
  cases w with
  | true => exact ⟨L0, H0, L', e, s', p0, re1, rs1, o1⟩
  | false => exact ⟨L0, H0, L', e, s', p0, re1, rs1, o1⟩
/-! ### stores -/
theorem asg_then {c : TT.Cxt} {x : TT.E} {t : TT.Tg} (D : Ends) (σ : L2.St) (H : Hp) (h : cS N K T Wx (fun n => TT.evS c n (.asg t x)) D σ H) : tAsg (cE N K T Wx (TT.evE c x)) (gT K t) D σ H := by
  obtain ⟨L0, H0, L, e, s, p, re, rs, o⟩ := h
  simp only [TT.evS] at o
  refine sE_then p re rs o fun w L' H' s' v p0 p1 re1 rs1 rv o1 => ?_
  cases h1 : TT.tgSem t w e with
  | none => rw [h1] at o1; exact False.elim o1
  | some e' =>
    rw [h1] at o1
    exact tg_then re1 rv h1 fun σ' re' _ => flow_here o1 p0 rs1 σ' re'
theorem ss_asgN {c : TT.Cxt} {x : TT.E} {i : Nat} {y : Str} {py : Pos} (hN : X.N.Nodup) (h : PE X a (cE N X.K T Wx (TT.evE c x))) (ht : TgNm X y i) (hs : swapsWith a (some (.Name y py)) pos.line X.env = pure false) :
    PS X (.Assign [.Name y py] a pos) (cS N X.K T Wx fun n => TT.evS c n (.asg (.nm i) x)) :=
  PSw (ps_set hN ht.at_ ht.loc h hs ht.own) fun D σ H q => asg_then D σ H q
theorem ss_asgT {c : TT.Cxt} {x : TT.E} {is : List Nat} {es : List Expr} {k : Nat} {p : Pos} (hN : X.N.Nodup) (hc : X.calm = true) (h : PE X a (cE N X.K T Wx (TT.evE c x))) (ht : TgNms X es is) (hs : swapsWith a (some (.Tuple es k p)) pos.line X.env = pure false) (hw : swappedStores [.Tuple es k p] a X.env = pure none) :
    PS X (.Assign [.Tuple es k p] a pos) (cS N X.K T Wx fun n => TT.evS c n (.asg (.tp is) x)) :=
  PSw (ps_asg h (pg_tp hN hc ht) hs hw rfl) fun D σ H q => asg_then D σ H q
theorem ss_asgLc {c : TT.Cxt} {i : Nat} {y : Str} {py : Pos} {iter elt : Expr} {ifs : List Expr} {scope : Scope} {own : List (Str × Nat)} {lpos : Pos} {fz : Bool} {t : TT.Tg} {it : TT.It} {es : TT.Es} {x : TT.E} (hc : X.calm = true) (hN : X.N.Nodup) (hy : TgNm X y i) (hyl : X.env.scope.names.lookup y = some .local)
    (hsw : swapsWith (.ListComp elt [⟨tg, iter, ifs, 0⟩] scope lpos) (some (.Name y py)) pos.line X.env = pure true) (hi : PI X tg iter (cI N X.K T Wx (TT.evI c it))) (ok : BlkOk X.N X.env.scope scope own) (ht : ∀ i ∈ tgs t, i ∈ own.map (·.2)) (hs : noSet iter = true)
    (hb : ∀ (s : Shared) (H : Hp) (C : Addr) (cl : List (Str × Addr)) (fp : List Addr), LcOk N (X.blk s H scope (compEnvC scope cl C X.env) fp) T c tg ifs elt t es x) :
    PS X (.Assign [.Name y py] (.ListComp elt [⟨tg, iter, ifs, 0⟩] scope lpos) pos) (cS N X.K T Wx fun n => TT.evS c n (.asg (.nm i) (.lc fz (own.map (·.2)) t it es x))) :=
  PSw (ps_setLc (wi := cI N X.K T Wx (TT.evI c it)) (g := gT X.K t) (tt := cT N X.K T Wx0 (TT.evC c es)) (te := cE N X.K T Wx0 (TT.evE c x)) hc hN hy.at_ hyl hsw hi ok (fun s H C cl fp => (hb s H C cl fp).g) (fun s H C cl fp => (hb s H C cl fp).t) (fun s H C cl fp => (hb s H C cl fp).e) (folded_no hs))
    fun D σ H q => lc_then (N := N) (K := X.K) (T := T) (Wx := Wx) c fz _ t it es x ht σ H (fun v H1 => gName i v σ H1 D.nx) (asg_then (t := .nm i) D σ H q)
/-- a, b = x, y -/
theorem ss_par2 {c : TT.Cxt} {i j : Nat} {x y : Str} {xs : TT.Es} {px py pt : Pos} {kt k2 pt2} (hc : X.calm = true) (hN : X.N.Nodup) (hi : X.N[i]? = some x) (hj : X.N[j]? = some y) (hij : i ≠ j)
    (hx : X.env.scope.names.lookup x = some .local) (hy : X.env.scope.names.lookup y = some .local) (ha : PA X [a, b] (cA N X.K T Wx (TT.evEs c xs)))
    (hw : swappedStores [.Tuple [.Name x px, .Name y py] kt pt] (.Tuple [a, b] k2 pt2) X.env = pure (some [x, y])) :
    PS X (.Assign [.Tuple [.Name x px, .Name y py] kt pt] (.Tuple [a, b] k2 pt2) pos) (cS N X.K T Wx fun n => TT.evS c n (.par [i, j] xs)) :=
  PSw (ps_par hc hN hi hj hij hx hy ha hw rfl) fun D σ H ⟨L0, H0, L, e, s, p, re, rs, o⟩ => by
    simp only [TT.evS] at o
    refine sA_then p re rs o fun ws L' H' s' vs p0 p1 re1 rs1 rv o1 => ?_
    split at o1
    · rename_i hl
      cases rv with
      | nil => simp at hl
      | cons r1 t1 =>
        cases t1 with
        | nil => simp at hl
        | cons r2 t2 =>
          cases t2 with
          | cons _ _ => simp at hl
          | nil => exact ⟨_, _, rfl, flow_here o1 p0 rs1 _ ((re1.set i r1).set j r2)⟩
    · exact False.elim o1
theorem ss_par3 {c : TT.Cxt} {i j l : Nat} {x y z : Str} {xs : TT.Es} {d : Expr} {px py pz pt : Pos} {kt k2 pt2} (hc : X.calm = true) (hN : X.N.Nodup) (hi : X.N[i]? = some x) (hj : X.N[j]? = some y) (hl : X.N[l]? = some z) (hij : i ≠ j) (hil : i ≠ l) (hjl : j ≠ l)
    (hx : X.env.scope.names.lookup x = some .local) (hy : X.env.scope.names.lookup y = some .local) (hz : X.env.scope.names.lookup z = some .local) (ha : PA X [a, b, d] (cA N X.K T Wx (TT.evEs c xs)))
    (hw : swappedStores [.Tuple [.Name x px, .Name y py, .Name z pz] kt pt] (.Tuple [a, b, d] k2 pt2) X.env = pure (some [x, y, z])) :
    PS X (.Assign [.Tuple [.Name x px, .Name y py, .Name z pz] kt pt] (.Tuple [a, b, d] k2 pt2) pos) (cS N X.K T Wx fun n => TT.evS c n (.par [i, j, l] xs)) :=
  PSw (ps_par3 hc hN hi hj hl hij hil hjl hx hy hz ha hw rfl) fun D σ H ⟨L0, H0, L, e, s, p, re, rs, o⟩ => by
    simp only [TT.evS] at o
    refine sA_then p re rs o fun ws L' H' s' vs p0 p1 re1 rs1 rv o1 => ?_
    split at o1
    · rename_i hl
      cases rv with
      | nil => simp at hl
      | cons r1 t1 =>
        cases t1 with
        | nil => simp at hl
        | cons r2 t2 =>
          cases t2 with
          | nil => simp at hl
          | cons r3 t3 =>
            cases t3 with
            | cons _ _ => simp at hl
            | nil => exact ⟨_, _, _, rfl, flow_here o1 p0 rs1 _ (((re1.set i r1).set j r2).set l r3)⟩
    · exact False.elim o1
theorem asD_ok {w : W} {d : TT.D} (h : TT.asD w = some d) : w = .d d := by
  unfold TT.asD at h
  split at h
  · cases h; rfl
  · cases h
theorem ixOf_ixN {n : Nat} {i : Int} {k : Nat} (h : TT.ixOf n i = some k) : ixN n i = some k := by
  unfold TT.ixOf at h
  unfold ixN
  exact h
/-- o[i] = x of a list -/
theorem ss_sub {c : TT.Cxt} {o i v : Expr} {xo xi xv : TT.E} {pt : Pos} (ho : PE X o (cE N X.K T Wx (TT.evE c xo))) (hi : PE X i (cE N X.K T Wx (TT.evE c xi))) (hv : PE X v (cE N X.K T Wx (TT.evE c xv))) (hsl : noSlice i = true) (hc : noComp v = true) (hw : noTup v = true)
    (ha : ∀ u, assign (.Subscript o i pt) X.env u = (do
      let ov ← holding [u] (eval o X.env)
      let iv ← holding [u, ov] (eval i X.env)
      standAt pt
      holding [u, ov, iv] (setItem ov iv u)
      release [u, ov, iv] [])) :
    PS X (.Assign [.Subscript o i pt] v pos) (cS N X.K T Wx fun n => TT.evS c n (.sub xo xi xv)) :=
  PSw (ps_asg hv (pg_sub ho hi set_list ha) (swaps_no (t := some (.Subscript o i pt)) (l := pos.line) (env := X.env) hc) (stores_no hw) rfl) fun D σ H ⟨L0, H0, L, e, s, p, re, rs, o⟩ => by
    simp only [TT.evS] at o
    refine sE_then p re rs o fun w L1 H1 s1 v1 p1 q1 re1 rs1 r1 o1 => sE_then p1 re1 rs1 o1 fun x L2 H2 s2 v2 p2 q2 re2 rs2 r2 o2 => sE_then p2 re2 rs2 o2 fun y L3 H3 s3 v3 p3 q3 re3 rs3 r3 o3 => ?_
    split at o3
    · rename_i l j d e1 e2
      split at o3
      · rename_i ds e3
        split at o3
        · rename_i k e4
          obtain ⟨b, eb, mb, rm⟩ := rs3.loc e3 (fun q => nomatch q)
          have r2' := r2.pst q3
          obtain ⟨a', ea, rfl⟩ := r2'
          rw [ea] at eb; cases eb
          cases rm with
          | lst hh rr =>
            have ey := asI_ok e1
            subst ey
            have ew := asD_ok e2
            subst ew
            refine ⟨_, _, j, k, rfl, RepD.int_inv r3, hh, ixOf_ixN (by rw [rr.len]; exact e4), ?_⟩
            have rw' := (r1.pst q2).pst q3
            have rs4 := rs3.write (m := .lst (ds.set k d)) ea (show isMut (.lst _) from trivial) (.lst upd_same ((rr.set k rw').keeps (Pst.write mb).keeps))
            exact flow_here o3 (p3.trans (Pst.write mb)) rs4 σ (re3.pst (Pst.write mb))
        · exact False.elim o3
      · exact False.elim o3
    · exact False.elim o3
end
end TS

set_option maxRecDepth 100000
/-! More statements: dicts, fields, errors, loops, sequences. -/
namespace TS
open PySem PySem.Spec PyProof.Rows L2
section
variable {N : Nm} {K : PySem.W.Frag} {T : List (Addr × Str)} {L L' : Loc} {H H' : Hp} {s : Sto}
theorem put_rep {κ : Type} [DecidableEq κ] {g : κ → TT.D} (inj : ∀ a b, g a = g b → a = b) {k : κ} {v : L2.V} {d : TT.D} {kvs : List (κ × L2.V)} {vs : List TT.D} (r : RepDs N K L H (kvs.map (·.2)) vs) (rv : RepD N K L H v d) :
    TT.putKs (g k) (kvs.map fun p => g p.1) = (putK kvs k v).map (fun p => g p.1) ∧ RepDs N K L H ((putK kvs k v).map (·.2)) (TT.putVs (g k) d (kvs.map fun p => g p.1) vs) := by
  have hm : (kvs.any fun kv => decide (kv.1 = k)) = decide (g k ∈ kvs.map fun p => g p.1) := by
    clear r rv
    induction kvs with
    | nil => simp
    | cons p r ih =>
      simp only [List.any_cons, ih, List.map_cons, List.mem_cons, Bool.decide_or]
      congr 1
      exact decide_eq_decide.mpr ⟨fun q => by rw [q], fun q => inj _ _ q.symm⟩
  unfold putK TT.putKs TT.putVs
  by_cases h : g k ∈ kvs.map fun p => g p.1
  · have hm' : (kvs.any fun kv => decide (kv.1 = k)) = true := by rw [hm]; exact decide_eq_true h
    simp only [hm', h, if_true]
    refine ⟨?_, ?_⟩
    · clear r hm hm' h
      induction kvs with
      | nil => rfl
      | cons p r ih =>
        simp only [List.map_cons]
        rw [← ih]
        congr 1
        split <;> rfl
    · clear hm hm' h
      induction kvs generalizing vs with
      | nil => cases r; exact .nil
      | cons p t ih =>
        cases r with
        | cons r1 r2 =>
          simp only [List.map_cons, TT.repVs]
          refine .cons ?_ (ih r2)
          by_cases e : p.1 = k
          · rw [if_pos e, if_pos (by rw [e])]; exact rv
          · rw [if_neg e, if_neg fun q => e (inj _ _ q)]; exact r1
  · have hm' : (kvs.any fun kv => decide (kv.1 = k)) = false := by rw [hm]; exact decide_eq_false h
    simp only [hm', h, if_false, Bool.false_eq_true]
    refine ⟨by simp, ?_⟩
    rw [List.map_append]
    exact r.app (.cons rv .nil)
theorem putF_rep' (ok : NmOk N K) {f : Nat} {v : L2.V} {d : TT.D} (rv : RepD N K L H v d) : ∀ {fs : List (Str × L2.V)} {ks : List Nat} {vs : List TT.D}, fs.map (·.1) = ks.map N.an → RepDs N K L H (fs.map (·.2)) vs →
    (putF (N.an f) v fs).map (·.1) = (TT.putKs f ks).map N.an ∧ RepDs N K L H ((putF (N.an f) v fs).map (·.2)) (TT.putN f d ks vs) := by
  have key : ∀ {fs : List (Str × L2.V)} {ks : List Nat} {vs : List TT.D}, fs.map (·.1) = ks.map N.an → RepDs N K L H (fs.map (·.2)) vs →
      (putF (N.an f) v fs).map (·.1) = (if f ∈ ks then ks else ks ++ [f]).map N.an ∧ RepDs N K L H ((putF (N.an f) v fs).map (·.2)) (TT.putN f d ks vs) := by
    intro fs
    induction fs with
    | nil =>
      intro ks vs e r
      cases ks with
      | cons _ _ => simp at e
      | nil =>
        cases r
        exact ⟨by simp [putF], .cons rv .nil⟩
    | cons p fs ih =>
      intro ks vs e r
      cases ks with
      | nil => simp at e
      | cons k ks =>
        obtain ⟨g, x⟩ := p
        simp only [List.map_cons, List.cons.injEq] at e
        obtain ⟨e1, e2⟩ := e
        cases r with
        | cons r1 r2 =>
          rename_i d1 ds1
          simp only [putF, TT.putN]
          by_cases q : k = f
          · subst q
            rw [if_pos e1, if_pos rfl]
            refine ⟨?_, .cons rv r2⟩
            simp [e1, e2]
          · have ne : ¬ g = N.an f := fun z => q (ok.inj _ _ (by rw [← e1, z]))
            rw [if_neg ne, if_neg q]
            obtain ⟨h1, h2⟩ := ih e2 r2
            refine ⟨?_, .cons r1 h2⟩
            simp only [List.map_cons, h1, e1]
            have q' : ¬ f = k := fun z => q z.symm
            by_cases hm : f ∈ ks
            · simp [hm, q']
            · simp [hm, q']
  intro fs ks vs e r
  exact key e r
end
section
variable {N : Nm} {X : Cx} {T : List (Addr × Str)} {Wx : WX} {f : TT.Env → Sto → TT.R W} {a b tg : Expr} {pos : Pos} {K : PySem.W.Frag} {L0 L : Loc} {H0 H : Hp} {σ : L2.St} {e : TT.Env} {s : Sto} {D : Ends}
theorem dn_ntbl {w : World} {a : Addr} {kvs : List (TT.D × Addr × L2.V)} : ∀ ps, DN w a kvs ≠ .tbl ps := fun ps h => by unfold DN at h; cases h
theorem dnput_keys {kvs : List (TT.D × Addr × L2.V)} {k : TT.D} {b : Addr} {v : L2.V} : TT.putKs k (kvs.map (·.1)) = (dnPut kvs k b v).map (·.1) := by
  unfold TT.putKs dnPut
  rw [dnAt_mem]
  by_cases q : k ∈ kvs.map (·.1)
  · rw [if_pos q, if_pos (by simpa using q), List.map_map]
    refine List.map_congr_left fun p _ => ?_
    simp only [Function.comp_apply]
    split <;> rfl
  · rw [if_neg q, if_neg (by simpa using q)]
    simp
theorem dnput_rep {K : PySem.W.Frag} {L : Loc} {H : Hp} {kvs : List (TT.D × Addr × L2.V)} {vs : List TT.D} {k : TT.D} {b : Addr} {v : L2.V} {d : TT.D} (rr : RepDs N K L H (kvs.map (·.2.2)) vs) (rk : RepDs N K L H (kvs.map fun p => .ref p.2.1) (kvs.map (·.1))) (rv : RepD N K L H v d) (r3 : RepD N K L H (.ref b) k) :
    TT.putKs k (kvs.map (·.1)) = (dnPut kvs k b v).map (·.1) ∧ RepDs N K L H ((dnPut kvs k b v).map (·.2.2)) (TT.putVs k d (kvs.map (·.1)) vs) ∧ RepDs N K L H ((dnPut kvs k b v).map fun p => .ref p.2.1) ((dnPut kvs k b v).map (·.1)) := by
  refine ⟨dnput_keys, ?_, ?_⟩
  · unfold TT.putVs dnPut
    rw [dnAt_mem]
    by_cases q : k ∈ kvs.map (·.1)
    · rw [if_pos q, if_pos (by simpa using q)]
      clear q rk
      induction kvs generalizing vs with
      | nil => cases rr; exact .nil
      | cons p r ih =>
        cases rr with
        | cons r1 r2 =>
          simp only [List.map_cons, TT.repVs]
          refine .cons ?_ (ih r2)
          by_cases e : p.1 = k
          · rw [if_pos e, if_pos e]; exact rv
          · rw [if_neg e, if_neg e]; exact r1
    · rw [if_neg q, if_neg (by simpa using q)]
      rw [List.map_append]
      exact rr.app (.cons rv .nil)
  · unfold dnPut
    by_cases q : (dnAt kvs k).isSome = true
    · rw [if_pos q, List.map_map, List.map_map]
      rw [show kvs.map ((fun p : TT.D × Addr × L2.V => (L2.V.ref p.2.1)) ∘ fun p => if p.1 = k then (p.1, p.2.1, v) else p) = kvs.map (fun p => .ref p.2.1) from List.map_congr_left fun p _ => by simp only [Function.comp_apply]; split <;> rfl]
      rw [show kvs.map ((fun p : TT.D × Addr × L2.V => p.1) ∘ fun p => if p.1 = k then (p.1, p.2.1, v) else p) = kvs.map (·.1) from List.map_congr_left fun p _ => by simp only [Function.comp_apply]; split <;> rfl]
      exact rk
    · rw [if_neg q, List.map_append, List.map_append]
      exact rk.app (.cons r3 .nil)
theorem dnput_ok {a b : Addr} {kvs : List (TT.D × Addr × L2.V)} {k : TT.D} {v : L2.V} (ok : DnOk a kvs) (hk : TT.keyN k = true) (hl : kvs.length ≤ 10000) : DnOk a (dnPut kvs k b v) := by
  refine ⟨ok.nsys, ?_, fun p hp => ?_, ?_⟩
  · unfold dnPut
    split
    · rw [List.length_map]; exact ok.len
    · rw [List.length_append, sizeLine_eq]; simp; omega
  · unfold dnPut at hp
    split at hp
    · obtain ⟨q, hq, rfl⟩ := List.mem_map.mp hp
      split
      · exact ok.key q hq
      · exact ok.key q hq
    · rcases List.mem_append.mp hp with hp | hp
      · exact ok.key p hp
      · rw [List.mem_singleton] at hp; subst hp; exact hk
  · rw [← dnput_keys]
    unfold TT.putKs
    split
    · exact ok.nd
    · rename_i q
      rw [List.nodup_append]
      exact ⟨ok.nd, by simp, fun x hx y hy e => by rw [List.mem_singleton] at hy; subst hy; subst e; exact q hx⟩
/-- o[k] = x of a dict -/
theorem ss_dput {c : TT.Cxt} {o i v : Expr} {xo xi xv : TT.E} {pt : Pos} (hu : X.A.units + 64 < cLine) (ho : PE X o (cE N X.K T Wx (TT.evE c xo))) (hi : PE X i (cE N X.K T Wx (TT.evE c xi))) (hv : PE X v (cE N X.K T Wx (TT.evE c xv))) (hs : swapsWith v (some (.Subscript o i pt)) pos.line X.env = pure false) :
    PS X (.Assign [.Subscript o i pt] v pos) (cS N X.K T Wx fun n => TT.evS c n (.dput xo xi xv)) :=
  PSw (ps_putU hu ho hi hv hs) fun D σ H ⟨L0, H0, L, e, s, p, re, rs, o⟩ => by
    simp only [TT.evS] at o
    refine sE_then p re rs o fun w L1 H1 s1 v1 p1 q1 re1 rs1 r1 o1 => sE_then p1 re1 rs1 o1 fun x L2 H2 s2 v2 p2 q2 re2 rs2 r2 o2 => sE_then p2 re2 rs2 o2 fun y L3 H3 s3 v3 p3 q3 re3 rs3 r3 o3 => ?_
    split at o3
    · rename_i l k d e1 e2
      split at o3
      · rename_i t ks vs e3
        split at o3
        · rename_i e4
          rw [Bool.and_eq_true] at e4
          obtain ⟨e4, e5⟩ := e4
          obtain ⟨b, eb, mb, rm⟩ := rs3.loc e3 (fun q => nomatch q)
          obtain ⟨a', ea, rfl⟩ := r2.pst q3
          rw [ea] at eb; cases eb
          have ey := asD_ok e1
          subst ey
          have ew := asD_ok e2
          subst ew
          have rv := (r1.pst q2).pst q3
          have sm := of_decide_eq_true e5
          have kp := (Pst.write (H := H3) (o := HO.dK []) mb).keeps
          cases rm with
          | dK hh rr =>
            rename_i kvs
            obtain ⟨q, rfl⟩ := key1_ex (by simpa [TT.keysOk] using e4)
            obtain ⟨h1, h2⟩ := put_rep (g := kD) (k := q) (fun _ _ => kD_inj) rr rv
            have ey : v3 = kV q := RepD.kV_inv r3
            subst ey
            rw [show TT.kindK 0 (kD q) = 0 from rfl, h1] at o3
            have rs4 := rs3.write (m := .dct 0 ((putK kvs q v1).map fun p => kD p.1) (TT.putVs (kD q) d (kvs.map fun p => kD p.1) vs)) ea (show isMut (.dK _) from trivial) (.dK upd_same (h2.keeps (Pst.write mb).keeps))
            exact ⟨_, _, rfl, .inl ⟨DPut.k hh (by simp at sm; rw [sizeLine_eq]; omega), flow_here o3 (p3.trans (Pst.write mb)) rs4 σ (re3.pst (Pst.write mb))⟩⟩
          | dT hh rr =>
            rename_i kvs
            obtain ⟨q, rfl⟩ := keyT_ex (by simpa [TT.keysOk] using e4)
            obtain ⟨h1, h2⟩ := put_rep (g := kT) (k := q) (fun _ _ => kT_inj) rr rv
            obtain ⟨b, rfl, hb⟩ := RepD.kT_inv r3
            rw [show TT.kindK 1 (kT q) = 1 from rfl, h1] at o3
            have rs4 := rs3.write (m := .dct 1 ((putK kvs q v1).map fun p => kT p.1) (TT.putVs (kT q) d (kvs.map fun p => kT p.1) vs)) ea (show isMut (.dT _) from trivial) (.dT upd_same (h2.keeps (Pst.write mb).keeps))
            exact ⟨_, _, rfl, .inl ⟨DPut.t hh hb (by simp at sm; rw [sizeLine_eq]; omega), flow_here o3 (p3.trans (Pst.write mb)) rs4 σ (re3.pst (Pst.write mb))⟩⟩
          | d3 hh =>
            simp only [TT.keysOk, Bool.or_eq_true] at e4
            by_cases q1 : TT.key1 k = true
            · obtain ⟨q, rfl⟩ := key1_ex q1
              have ey : v3 = kV q := RepD.kV_inv r3
              subst ey
              rw [show TT.kindK 3 (kD q) = 0 by simp [TT.kindK, q1]] at o3
              have rs4 := rs3.write (m := .dct 0 ((putK [] q v1).map fun p => kD p.1) [d]) ea (show isMut (.dK _) from trivial) (.dK upd_same (.cons (RepD.keeps (Pst.write mb).keeps rv) .nil))
              exact ⟨_, _, rfl, .inl ⟨DPut.k hh (by rw [sizeLine_eq]; simp), flow_here o3 (p3.trans (Pst.write mb)) rs4 σ (re3.pst (Pst.write mb))⟩⟩
            · have q2 : TT.keyN k = true := e4.resolve_left q1
              obtain ⟨bk, rfl, hb⟩ := RepD.keyN_inv q2 r3
              rw [show TT.kindK 3 k = 2 by simp [TT.kindK, q1]] at o3
              refine ⟨_, _, rfl, .inr ⟨⟨bk, k, rfl, q2, hb, .inr ⟨hh, rfl⟩⟩, fun e0 => ?_⟩⟩
              have rs4 := rs3.write (o := DN X.w b [(k, bk, v1)]) (m := .dct 2 [k] [d]) ea (show isMut (DN X.w b _) from dn_phi _ _ _) (.dN upd_same ⟨e0, by rw [sizeLine_eq]; simp, by simpa using q2, by simp⟩ (.cons (RepD.keeps (Pst.write mb (ho := dn_ntbl)).keeps r3) .nil) (.cons (RepD.keeps (Pst.write mb (ho := dn_ntbl)).keeps rv) .nil))
              exact flow_here o3 (p3.trans (Pst.write mb (ho := dn_ntbl))) rs4 σ (re3.pst (Pst.write mb (ho := dn_ntbl)))
          | dN hh ok rk rr =>
            rename_i w kvs
            have q2 : TT.keyN k = true := by simpa [TT.keysOk] using e4
            obtain ⟨bk, rfl, hb⟩ := RepD.keyN_inv q2 r3
            obtain ⟨h1, h2, h3⟩ := dnput_rep (b := bk) (k := k) rr rk rv r3
            rw [show TT.kindK 2 k = 2 from rfl, h1] at o3
            have lm : kvs.length ≤ 10000 := by simpa using sm
            have rs4 := rs3.write (o := DN X.w b (dnPut kvs k bk v1)) (m := .dct 2 ((dnPut kvs k bk v1).map (·.1)) (TT.putVs k d (kvs.map (·.1)) vs)) ea (show isMut (DN X.w b _) from dn_phi _ _ _) (.dN upd_same (dnput_ok ok q2 lm) (h3.keeps (Pst.write mb (ho := dn_ntbl)).keeps) (h2.keeps (Pst.write mb (ho := dn_ntbl)).keeps))
            exact ⟨_, _, rfl, .inr ⟨⟨bk, k, rfl, q2, hb, .inl ⟨w, kvs, hh, ok, by rw [sizeLine_eq]; omega, keys_dp ok.key rk, rfl⟩⟩, fun _ => flow_here o3 (p3.trans (Pst.write mb (ho := dn_ntbl))) rs4 σ (re3.pst (Pst.write mb (ho := dn_ntbl)))⟩⟩
        · exact False.elim o3
      · exact False.elim o3
    · exact False.elim o3
/-- o.f = x -/
theorem ss_fld {c : TT.Cxt} {o v : Expr} {xo xv : TT.E} {k : Nat} {m : Str} {pt : Pos} (ok : NmOk N X.K) (ho : PE X o (cE N X.K T Wx (TT.evE c xo))) (hv : PE X v (cE N X.K T Wx (TT.evE c xv))) (hk : k < N.as.length) (hm : m = N.an k) (hs : swapsWith v (some (.Attribute o m pt)) pos.line X.env = pure false) :
    PS X (.Assign [.Attribute o m pt] v pos) (cS N X.K T Wx fun n => TT.evS c n (.fld xo k xv)) := by
  subst hm
  refine PSw (ps_fld ho hv hs) fun D σ H ⟨L0, H0, L, e, s, p, re, rs, o⟩ => ?_
  simp only [TT.evS] at o
  refine sE_then p re rs o fun w L1 H1 s1 v1 p1 q1 re1 rs1 r1 o1 => sE_then p1 re1 rs1 o1 fun x L2 H2 s2 v2 p2 q2 re2 rs2 r2 o2 => ?_
  split at o2
  · rename_i l d e2
    split at o2
    · rename_i cl ks vs e3
      split at o2
      · rename_i e4
        obtain ⟨b, eb, mb, rm⟩ := rs2.loc e3 (fun q => nomatch q)
        obtain ⟨a', ea, rfl⟩ := r2
        rw [ea] at eb; cases eb
        have ew := asD_ok e2
        subst ew
        have rv := r1.pst q2
        cases rm with
        | obj hc hh en rr =>
          rename_i dx fs
          obtain ⟨h1, h2⟩ := putF_rep' ok rv en rr
          have rs4 := rs2.write (o := .ins (N.ca X.K cl) dx (putF (N.an k) v1 fs)) (m := .obj cl (TT.putKs k ks) (TT.putN k d ks vs)) ea (show isMut (.ins _ _ _) from trivial) (.obj hc upd_same h1 (h2.keeps (Pst.write mb).keeps))
          have ln : fs.length = ks.length := by
            have := congrArg List.length en
            simpa using this
          exact ⟨_, _, dx, fs, rfl, hh, ok.cls _ hc, ok.noat _ _ hc hk, by rw [ln]; omega, flow_here o2 (p2.trans (Pst.write mb)) rs4 σ (re2.pst (Pst.write mb))⟩
      · exact False.elim o2
    · exact False.elim o2
  · exact False.elim o2
/-- raise X('..') -/
theorem ss_raise {c : TT.Cxt} {k : Nat} {m : Str} {j : Nat} {x : Str} {p p2 p3 : Pos} {bmB : List Value} {B newId initId : String} (hc : X.calm = true) (tk : L2.Takes X Wx) (F : ExcBaseFacts B newId initId bmB) (q : PySem.W.excIn X.K (N.ea X.K k) bmB newId = true) (gC : X.mg x = some (.ref (N.ea X.K k))) (kC : PySem.W.keepIn X.K (.ref (N.ea X.K k)) = true)
    (r : Raises X (.ref (N.ea X.K k))) (hg : Gl X x) (hdb : (x == ("__debug__" : Str)) = false) : PS X (.Raise (some (.Call (.Name x p) [.Constant (.str m) j p2] [] p3)) none pos) (cS N X.K T Wx fun n => TT.evS c n (.raise k)) :=
  PSw (ps_raise hc tk (pmk_own F q gC kC r hg hdb)) fun D σ H ⟨L0, H0, L, e, s, p, re, rs, o⟩ => by
    simp only [TT.evS] at o
    exact o L H p rs σ
/-! ### loops -/
theorem ss_for {c : TT.Cxt} {iter : Expr} {body : List Stmt} {t : TT.Tg} {it : TT.It} {kill : List Nat} {y : TT.Ss} (hp : PassesOwn (model X.prog X.w) X.A X.env X.xe) (hc : X.calm = true) (hi : PI X tg iter (cI N X.K T Wx (TT.evI c it))) (hg : PG X tg (gT X.K t)) (hs : noSet iter = true)
    (hb : PSs X body (cS N X.K T Wx fun n => TT.evSs c n y)) : PS X (.For tg iter body [] pos) (cS N X.K T Wx fun n => TT.evS c n (.for t it kill y)) :=
  PSw (ps_for hp hc hi hg hb (folded_no hs)) fun D σ H ⟨L0, H0, L, e, s, p, re, rs, o⟩ => by
    simp only [TT.evS] at o
    refine ⟨L, e, s, re, rs, ((Out.bind0 o).step p).mono (fun g L1 H1 s1 p1 rs1 o1 J wk => ?_) fun _ _ h => h σ⟩
    have p01 := p.trans p1
    have ln1 : s1.length = L1.length := rs1.len.symm
    refine ⟨fun i m σ2 H2 => ∃ (L2 : Loc) (e2 : TT.Env) (s2 : Sto), i + m = g.1.length ∧ Pst L1 L2 H1 H2 ∧ RelE N X.K L2 H2 σ2 e2 ∧ RelS N X.K T L2 H2 s2 ∧
      Out N X.K T L0 H0 (flow N X.K 0 D) (erS N X.K Wx) (TT.forL (TT.forF t kill fun e s' => TT.evSs c s1.length y e s') g (g.1.drop i) e2 s2), ⟨g.1.length, L1, e, s1, by simp, Pst.refl _ _, re.pst p1, rs1, by simpa using o1⟩, ?_⟩
    rintro i m σ2 H2 ⟨L2, e2, s2, him, p2, re2, rs2, o2⟩
    cases hx : g.1.drop i with
    | nil =>
      left
      rw [hx] at o2
      simp only [TT.forL] at o2
      split at o2
      · rename_i st
        have hi : i = g.1.length := by
          have := List.drop_eq_nil_iff.mp hx
          omega
        refine ⟨by rw [hi]; exact (wk L2 H2 s2 p2 rs2 st).2, ?_⟩
        exact flow_here o2 (p01.trans p2) rs2 σ2 re2
      · exact False.elim o2
    | cons x xs =>
      right
      rw [hx] at o2
      simp only [TT.forL] at o2
      split at o2
      · rename_i st
        have hy : g.1[i]? = some x := by
          have := congrArg (·[0]?) hx
          simpa using this
        have hys : g.1.drop (i + 1) = xs := by
          have := congrArg (List.drop 1) hx
          simpa [List.drop_drop, Nat.add_comm] using this
        have hi : i < g.1.length := (List.getElem?_eq_some_iff.mp hy).1
        obtain ⟨go, yl⟩ := (wk L2 H2 s2 p2 rs2 st).1 i x hy
        refine ⟨go, _, fun σ' H' hN => ⟨m - 1, by omega, hN⟩, fun v H3 yv => ?_⟩
        obtain ⟨p3, rs3, rv⟩ := yl v H3 yv
        have re3 := re2.pst p3
        unfold TT.forF at o2
        cases ht' : TT.tgSem t (.d x) e2 with
        | none => simp only [ht'] at o2; exact False.elim o2
        | some e' =>
          simp only [ht'] at o2
          refine tg_then (w := .d x) re3 rv ht' fun σ3 re3' _ => ?_
          rw [TT.R.bind_assoc] at o2
          refine ⟨L1, H1, L2, e', s2, p2.trans p3, re3', rs3, ?_⟩
          rw [← ln1]
          refine ((Out.bind0 o2).step p01).mono (fun r L4 H4 s4 p4 rs4 o4 => ?_) fun _ _ h => h
          obtain ⟨fl, e4⟩ := r
          simp only [TT.R.bind_ok] at o4
          cases fl with
          | nx => exact fun σ' re4 => ⟨L4, _, s4, by omega, p4, re4.kill kill, rs4, by rw [hys]; exact o4⟩
          | cnt => exact fun σ' re4 => ⟨L4, _, s4, by omega, p4, re4.kill kill, rs4, by rw [hys]; exact o4⟩
          | brk => exact fun σ' re4 => flow_here o4 (p01.trans p4) rs4 σ' (re4.kill kill)
          | ret w => exact fun v rv => flow_here o4 (p01.trans p4) rs4 v rv
      · exact False.elim o2
theorem ss_whl {c : TT.Cxt} {body : List Stmt} {x : TT.E} {m : Nat} {kill : List Nat} {y : TT.Ss} (hp : PassesOwn (model X.prog X.w) X.A X.env X.xe) (hc : PT X a (cT N X.K T Wx (asT (TT.evE c x))))
    (hb : PSs X body (cS N X.K T Wx fun n => TT.evSs c n y)) : PS X (.While a body [] pos) (cS N X.K T Wx fun n => TT.evS c n (.whl m x kill y)) :=
  PSw (ps_while hp hc hb) fun D σ H ⟨L0, H0, L, e, s, p, re, rs, o⟩ => by
    simp only [TT.evS] at o
    have ln1 : s.length = L.length := rs.len.symm
    refine ⟨fun m σ2 H2 => ∃ (L2 : Loc) (e2 : TT.Env) (s2 : Sto), Pst L L2 H H2 ∧ RelE N X.K L2 H2 σ2 e2 ∧ RelS N X.K T L2 H2 s2 ∧
      Out N X.K T L0 H0 (flow N X.K 0 D) (erS N X.K Wx) (TT.whlL (fun e s => TT.evE c x e s) (TT.whlF kill fun e s' => TT.evSs c s.length y e s') m e2 s2), ⟨m, L, e, s, Pst.refl _ _, re, rs, o⟩, ?_⟩
    rintro n σ2 H2 ⟨L2, e2, s2, p2, re2, rs2, o2⟩
    cases n with
    | zero => exact False.elim o2
    | succ n =>
      simp only [TT.whlL] at o2
      rw [asT_bind (k := fun b s1 => if b then (TT.whlF kill (fun e s' => TT.evSs c s.length y e s') e2 s1).bind fun r s' => match r.1 with
        | .nx => TT.whlL (fun e s => TT.evE c x e s) (TT.whlF kill fun e s' => TT.evSs c s.length y e s') n r.2 s'
        | .cnt => TT.whlL (fun e s => TT.evE c x e s) (TT.whlF kill fun e s' => TT.evSs c s.length y e s') n r.2 s'
        | .brk => .ok (.nx, r.2) s'
        | .ret w => .ok (.ret w, r.2) s' else .ok (.nx, e2) s1) fun w s => by
          cases TT.asB w with
          | none => rfl
          | some b => cases b <;> rfl] at o2
      refine sT_then (f := TT.evE c x) (p.trans p2) re2 rs2 o2 fun b L3 H3 s3 p03 p3 re3 rs3 o3 => ?_
      cases b with
      | false => exact flow_here o3 p03 rs3 σ2 re3
      | true =>
        simp only [if_true] at o3 ⊢
        refine ⟨_, fun σ' H' hN => ⟨n, Nat.lt_succ_self n, hN⟩, L, H, L3, e2, s3, p2.trans p3, re3, rs3, ?_⟩
        unfold TT.whlF at o3
        rw [TT.R.bind_assoc, ln1] at o3
        refine ((Out.bind0 o3).step p).mono (fun r L4 H4 s4 p4 rs4 o4 => ?_) fun _ _ h => h
        obtain ⟨fl, e4⟩ := r
        simp only [TT.R.bind_ok] at o4
        cases fl with
        | nx => exact fun σ' re4 => ⟨L4, _, s4, p4, re4.kill kill, rs4, by rw [ln1]; exact o4⟩
        | cnt => exact fun σ' re4 => ⟨L4, _, s4, p4, re4.kill kill, rs4, by rw [ln1]; exact o4⟩
        | brk => exact fun σ' re4 => flow_here o4 (p.trans p4) rs4 σ' (re4.kill kill)
        | ret w => exact fun v rv => flow_here o4 (p.trans p4) rs4 v rv
/-! ### one after another -/
theorem sq_nil {c : TT.Cxt} : PSs X [] (cS N X.K T Wx fun n => TT.evSs c n .nil) := PSsw pss_nil fun D σ H ⟨L0, H0, L, e, s, p, re, rs, o⟩ => flow_here o p rs σ re
theorem sq_cons {c : TT.Cxt} {st : Stmt} {sts : List Stmt} {x : TT.S} {xs : TT.Ss} (h : PS X st (cS N X.K T Wx fun n => TT.evS c n x)) (t : PSs X sts (cS N X.K T Wx fun n => TT.evSs c n xs)) : PSs X (st :: sts) (cS N X.K T Wx fun n => TT.evSs c n (.cons x xs)) :=
  PSsw (pss_cons h t) fun D σ H ⟨L0, H0, L, e, s, p, re, rs, o⟩ => by
    simp only [TT.evSs] at o
    refine ⟨L0, H0, L, e, s, p, re, rs, (Out.bind0 o).mono (fun r L' H' s' p' rs' o' => ?_) fun _ _ h => h⟩
    obtain ⟨fl, e'⟩ := r
    cases fl with
    | nx => exact fun σ' re' => ⟨L0, H0, L', e', s', p', re', rs', o'⟩
    | cnt => exact flow_here (Wx := Wx) o' p' rs'
    | brk => exact flow_here (Wx := Wx) o' p' rs'
    | ret w => exact flow_here (Wx := Wx) o' p' rs'
/-! ### notes on the store -/
theorem RelE.unName {l : Nat} (r : RelE N K L H σ e) (L' : Loc) (h : ∀ (i : Nat) (v : L2.V) (w : W), w ≠ .loc l → RepW N K L H v w → RepW N K L' H v w) : RelE N K L' H σ (TT.unName l e) := by
  refine ⟨by simp [TT.unName, r.len], fun i w q => ?_⟩
  unfold TT.unName at q
  rw [List.getElem?_map] at q
  cases h1 : e[i]? with
  | none => rw [h1] at q; cases q
  | some u =>
    rw [h1] at q
    simp only [Option.map_some, Option.some.injEq] at q
    split at q
    · cases q
    · rename_i ne
      subst q
      obtain ⟨v, h2, h3⟩ := r.at_ i w h1
      exact ⟨v, h2, h i v w (fun z => ne (by rw [z])) h3⟩
theorem repW_less {L' : Loc} {l : Nat} {v : L2.V} {w : W} (mem : ∀ a, some a ∈ L' → some a ∈ L) (at_ : ∀ j, j ≠ l → ∀ a, L[j]? = some (some a) → L'[j]? = some (some a)) (ne : w ≠ .loc l) (r : RepW N K L H v w) : RepW N K L' H v w := by
  cases w with
  | d x => exact RepD.keeps (L := L) ⟨fun a _ n _ _ q => n (mem a q), fun a u h _ _ => h⟩ r
  | loc j =>
    obtain ⟨a, e, rfl⟩ := r
    exact ⟨a, at_ j (fun z => ne (by rw [z])) a e, rfl⟩
theorem pre_drop (p : ∃ X, L = L0 ++ X) (h : L0.length < L.length) : ∃ X, L.dropLast = L0 ++ X := by
  obtain ⟨X, rfl⟩ := p
  have : X ≠ [] := fun z => by subst z; simp at h
  exact ⟨X.dropLast, by rw [List.dropLast_append_of_ne_nil this]⟩
theorem pre_kill {l : Nat} (p : ∃ X, L = L0 ++ X) (h : L0.length ≤ l) : ∃ X, L.set l none = L0 ++ X := by
  obtain ⟨X, rfl⟩ := p
  exact ⟨X.set (l - L0.length) none, by rw [List.set_append_right _ _ h]⟩
theorem sq_ghost {c : TT.Cxt} {sts : List Stmt} {x : TT.S} {xs : TT.Ss} (t : PSs X sts (cS N X.K T Wx fun n => TT.evSs c n xs))
    (h : ∀ (L0 : Loc) (H0 : Hp) (L : Loc) (H : Hp) (σ : L2.St) (e : TT.Env) (s : Sto), Pst L0 L H0 H → RelE N X.K L H σ e → RelS N X.K T L H s → TT.evS c L0.length x e s = .no ∨
      ∃ (L' : Loc) (e' : TT.Env) (s' : Sto), TT.evS c L0.length x e s = .ok (.nx, e') s' ∧ Pst L0 L' H0 H ∧ RelE N X.K L' H σ e' ∧ RelS N X.K T L' H s') : PSs X sts (cS N X.K T Wx fun n => TT.evSs c n (.cons x xs)) :=
  PSsw t fun D σ H ⟨L0, H0, L, e, s, p, re, rs, o⟩ => by
    simp only [TT.evSs] at o
    rcases h L0 H0 L H σ e s p re rs with h | ⟨L', e', s', h, p', re', rs'⟩
    · rw [h] at o; exact False.elim o
    · rw [h] at o; exact ⟨L0, H0, L', e', s', p', re', rs', o⟩
theorem sq_drop {c : TT.Cxt} {sts : List Stmt} {i : Nat} {xs : TT.Ss} (t : PSs X sts (cS N X.K T Wx fun n => TT.evSs c n xs)) : PSs X sts (cS N X.K T Wx fun n => TT.evSs c n (.cons (.gdrop i) xs)) :=
  sq_ghost t fun L0 H0 L H σ e s p re rs => by
    simp only [TT.evS]
    split
    · rename_i l h1
      split
      · rename_i h2
        right
        have hl : l + 1 = L.length := by rw [rs.len]; exact h2.2
        refine ⟨L.dropLast, _, _, rfl, p.less (pre_drop p.pre (by omega)) (fun a => mem_drop), re.unName _ fun i v w ne r => repW_less (fun a => mem_drop) (fun j hj a e => ?_) ne r, rs.drop1⟩
        rw [List.getElem?_dropLast, if_pos]
        · exact e
        · have := (List.getElem?_eq_some_iff.mp e).1
          omega
      · exact .inl rfl
    · exact .inl rfl
theorem freeze_some {s s' : Sto} {l : Nat} {d : TT.D} (h : TT.freeze s l = some (d, s')) : ∃ m, s[l]? = some m ∧ frzM m = some d ∧ m ≠ .dead ∧ s' = if l + 1 = s.length then s.dropLast else s.set l .dead := by
  unfold TT.freeze at h
  split at h <;> first | (rename_i e1; simp only [Option.some.injEq, Prod.mk.injEq] at h; exact ⟨_, e1, by rw [← h.1]; rfl, (fun q => nomatch q), h.2.symm⟩) | cases h
theorem sq_frz {c : TT.Cxt} {sts : List Stmt} {i : Nat} {xs : TT.Ss} (t : PSs X sts (cS N X.K T Wx fun n => TT.evSs c n xs)) : PSs X sts (cS N X.K T Wx fun n => TT.evSs c n (.cons (.gfrz i) xs)) :=
  sq_ghost t fun L0 H0 L H σ e s p re rs => by
    simp only [TT.evS]
    split
    · rename_i l h1
      split
      · rename_i h2
        split
        · rename_i d s' h3
          right
          obtain ⟨m, hm, hd, nd, hs'⟩ := freeze_some h3
          obtain ⟨a, ea, ma, ra⟩ := rs.loc hm nd
          obtain ⟨v, hv, rv⟩ := re.at_ i _ h1
          obtain ⟨a', ea', ev⟩ := rv
          rw [ea] at ea'; cases ea'
          subst ev
          have lt := (List.getElem?_eq_some_iff.mp ea).1
          have fin : ∀ (L' : Loc) (mem : ∀ a, some a ∈ L' → some a ∈ L) (at_ : ∀ j, j ≠ l → ∀ a, L[j]? = some (some a) → L'[j]? = some (some a)) (nin : some a ∉ L') (pre : ∃ X, L' = L0 ++ X) (rs' : RelS N X.K T L' H s'),
              ∃ (L' : Loc) (e' : TT.Env) (s'' : Sto), (TT.R.ok (TT.Fl.nx, (TT.unName l e).set i (some (.d d))) s' : TT.R FE) = .ok (.nx, e') s'' ∧ Pst L0 L' H0 H ∧ RelE N X.K L' H σ e' ∧ RelS N X.K T L' H s'' := by
            intro L' mem at_ nin pre rs'
            have k : Keeps L L' H H := ⟨fun a _ n _ _ q => n (mem a q), fun a u h _ _ => h⟩
            have r1 := re.unName (l := l) L' fun i v w ne r => repW_less mem at_ ne r
            have rd : RepW N X.K L' H (.ref a) (.d d) := (ra.keeps k rfl).frz nin hd
            have r2 := r1.set i rd
            have eσ : σ.set i (some (.ref a)) = σ := by
              apply List.ext_getElem?
              intro j
              rw [List.getElem?_set]
              split
              · rename_i ij
                subst ij
                split
                · exact hv.symm
                · rename_i hl
                  have := (List.getElem?_eq_some_iff.mp hv).1
                  exact absurd this hl
              · rfl
            rw [eσ] at r2
            exact ⟨L', _, _, rfl, p.less pre mem, r2, rs'⟩
          by_cases hl : l + 1 = s.length
          · rw [if_pos hl] at hs'
            have hl' : l + 1 = L.length := by rw [rs.len]; exact hl
            refine fin L.dropLast (fun a => mem_drop) (fun j hj a e => ?_) (nin_drop rs ea hl') (pre_drop p.pre (by omega)) (by rw [hs']; exact rs.drop1)
            rw [List.getElem?_dropLast, if_pos]
            · exact e
            · have := (List.getElem?_eq_some_iff.mp e).1
              omega
          · rw [if_neg hl] at hs'
            refine fin (L.set l none) (fun a => mem_kill) (fun j hj a e => ?_) (nin_kill rs ea) (pre_kill p.pre h2) (by rw [hs']; exact rs.kill1 l)
            rw [List.getElem?_set_ne hj.symm]
            exact e
        · exact .inl rfl
      · exact .inl rfl
    · exact .inl rfl
end
end TS

set_option maxRecDepth 100000
/-! A question put off: a lambda handed to the def that asks; texts that are walked. -/
namespace TS
open PySem PySem.Spec PyProof.Rows L2
/-- what the asking def makes of the question: its value, or the word of the error's class -/
def TTask (N : Nm) (K : PySem.W.Frag) (T : List (Addr × Str)) (ws : List (Nat × Str)) : (XK → Hp → VK → Prop) → Hp → VK → Prop := fun tl H Q =>
  tl (fun cls d H' => ∃ x z, cls = .ref (N.ea K x) ∧ d = none ∧ ws.lookup x = some z ∧ LamX.Tabs T H' ∧ ∀ H2, LamX.ExtN H' H2 → LamX.Tabs T H2 → Q (.str z) H2) H Q
/-- the asking def, as the module has it -/
structure AskOk (N : Nm) (P : Program) (w : World) (K : PySem.W.Frag) (mg : Str → Option Value) (base : Heap) (T : List (Addr × Str)) (ws : List (Nat × Str)) (x : Str) : Prop where
  ex : ∃ (a : Str) (g : Addr) (pg : Arguments) (bg : List Stmt) (sg : Scope) (dV kV doc pm cdv ct oc : Value) (an od : Option Addr) (osl : Array (Option Value)) (Ng : List Str),
    mg x = some (.ref g) ∧ PySem.W.keepIn K (.ref g) = true ∧ K.lookup g = some ⟨oc, od, .func (PySem.W.fnOf x x pg bg sg dV kV doc pm an cdv ct), osl⟩ ∧ PySem.W.codeIn K cdv x = true ∧
    L2.Binds K (PySem.W.fnOf x x pg bg sg dV kV doc pm an cdv ct) [a] [] ∧ FnScope Ng [a] sg ∧ Ng[0]? = some a ∧ Vis sg a ∧ (a == ("__debug__" : Str)) = false ∧ (a == ("__classdict__" : Str)) = false ∧
    ∀ (X : Cx) (q : Str), X.prog = P → X.w = w → X.K = K → X.mg = mg → X.base = base → Room 3 X.A → LamX.GivesTo X Ng x sg g cdv bg a q (TTask N K T ws)
/-- where lambdas are made: the code object of the def, its table -/
structure LamAt (X : Cx) (T : List (Addr × Str)) : Prop where
  ex : ∃ c P, X.env.code = .ref c ∧ LamX.TabB X.base X.mg c P ∧ (P, X.env.qual ++ "<lambda>") ∈ T ∧ ∀ p ∈ T, p.1 = P → p.2 = X.env.qual ++ "<lambda>"
def noArgs : Arguments := ⟨[], [], none, [], [], none, []⟩
theorem pst_ext {L : Loc} {H H1 : Hp} (e : LamX.ExtN H H1) : Pst L L H H1 where
  pre := ⟨[], by simp⟩
  new := fun _ h => .inl h
  fr := fun a o h _ q => e a o h q
  thr := fun a h => by
    cases h1 : H a with
    | none => exact .inl h1
    | some o =>
      by_cases t : ∃ ps, o = .tbl ps
      · obtain ⟨ps, rfl⟩ := t; exact .inr ⟨ps, h1⟩
      · exact (h.not (e a o h1 fun ps z => t ⟨ps, z⟩) fun ps z => t ⟨ps, z⟩).elim
theorem rels_ext {N : Nm} {K : PySem.W.Frag} {T : List (Addr × Str)} {L : Loc} {H H1 : Hp} {s : Sto} (z : RelS N K T L H s) (e : LamX.ExtN H H1) (t : LamX.Tabs T H1) : RelS N K T L H1 s where
  len := z.len
  uniq := z.uniq
  there := fun a h => by
    obtain ⟨o, h1, h2⟩ := z.there a h
    exact ⟨o, e a o h1 (fun ps q => by subst q; exact h2), h2⟩
  at_ := fun l m h d => by
    obtain ⟨a, h1, r⟩ := z.at_ l m h d
    obtain ⟨o, h2, h3⟩ := z.there a (List.mem_of_getElem? h1)
    exact ⟨a, h1, r.keeps (pst_ext e).keeps ((e a o h2 fun ps q => by subst q; exact h3).trans h2.symm)⟩
  tabs := t
section
variable {N : Nm} {X : Cx} {T : List (Addr × Str)} {Wx : WX}
theorem pe_ask {ws : List (Nat × Str)} {x : Str} {k : Nat} {c : TT.Cxt} {y : TT.E} {body : Expr} {scope : Scope} {p lpos pos : Pos} (hw : c.P.words = ws) (A : AskOk N X.prog X.w X.K X.mg X.base T ws x) (hg : Gl X x) (hl : LamAt X T) (hr : Room (k + 3) X.A) (L : LamX.LamS X.env.scope scope) (hdb : (x == ("__debug__" : Str)) = false)
    (hbody : ∀ (A : Around) (outer : List Env) (s : Shared) (H : Hp) (E : XK) (f c' : Addr), Room (k + 1) (A.deeper (LamX.lamEnv X scope s.heap.objs.size f c')) → PE (LamX.lamCx X A outer s H E scope f c') body (cE N X.K T (fun cls d _ H => E cls d H) (TT.evE c.down y))) :
    PE X (.Call (.Name x p) [.Lambda noArgs body scope lpos] [] pos) (cE N X.K T Wx (TT.evE c (.ask y))) := by
  obtain ⟨a, g, pg, bg, sg, dV, kV, doc, pm, cdv, ct, oc, an, od, osl, Ng, h1, h2, h3, h4, h5, h6, h7, h8, h9, h10, hG⟩ := A.ex
  obtain ⟨cc, P, k1, k2, k3, k4⟩ := hl.ex
  refine PEw (LamX.pe_lamcall (t := fun E => cE N X.K T (fun cls d _ H => E cls d H) (TT.evE c.down y)) hg h1 h2 h3 h4 h5 h6 h7 h8 (hG X _ rfl rfl rfl rfl rfl (hr.mono (by omega))) k2 k1 k3 k4 (k := k + 1) hr L rfl (fun _ _ _ _ _ => rfl) hbody hdb h9 h10) ?_
  intro σ H Q ⟨L', e, s, re, rs, o⟩
  refine ⟨rs.tabs, fun H1 eN T1 => ?_⟩
  have ps := pst_ext (L := L') eN
  refine ⟨L', e, s, re.pst ps, rels_ext rs eN T1, ?_⟩
  simp only [TT.evE] at o
  cases h : TT.evE c.down y e s with
  | ok w s' => rw [h] at o; exact o.step ps
  | no => rw [h] at o; exact o
  | err q s' =>
    rw [h] at o
    intro L2 H2 p2 rs2
    simp only [hw] at o
    cases h' : ws.lookup q with
    | none => rw [h'] at o; exact False.elim o
    | some z =>
      rw [h'] at o
      exact ⟨q, z, rfl, rfl, h', rs2.tabs, fun H3 e3 t3 => o L2 H3 ((ps.trans p2).trans (pst_ext e3)) (rels_ext rs2 e3 t3) _ (.str z)⟩
/-! ### a text that is walked -/
theorem walk_x {K : PySem.W.Frag} {L : Loc} {H : Hp} (x : Str) : Walks N K T (Its x) L H (x.cps.toList.map fun c => .str ⟨#[c]⟩, none) := by
  intro L1 H1 s1 p z c
  refine ⟨fun i d e => ?_, by simp [Its]⟩
  rw [List.getElem?_map] at e
  cases e1 : x.cps.toList[i]? with
  | none => rw [e1] at e; cases e
  | some u =>
    rw [e1] at e
    cases e
    refine ⟨?_, fun v H' y => ?_⟩
    · have := (List.getElem?_eq_some_iff.mp e1).1
      show i < x.cps.size
      simpa using this
    · obtain ⟨rfl, u', h1, rfl⟩ := y
      have : x.cps.toList[i]? = some u' := by simpa using h1
      rw [e1] at this; cases this
      exact ⟨Pst.refl _ _, z, .str _⟩
theorem pi_txt {tg a : Expr} {x : TT.E} (c : TT.Cxt) (ha : PE X a (cE N X.K T Wx (TT.evE c x))) : PI X tg a (cI N X.K T Wx (TT.evI c (.txt x))) :=
  PIw (pi_str ha) fun σ H R ⟨L, e, s, re, rs, o⟩ => by
    simp only [TT.evI] at o
    refine cE_then re rs o fun w L1 H1 s1 v p1 re1 rs1 rv o1 => ?_
    split at o1
    · exact ⟨_, RepD.str_inv rv, o1.here rs1 _ (walk_x _)⟩
    · exact False.elim o1
end
end TS

set_option maxRecDepth 100000
set_option maxHeartbeats 2000000
/-! list(reversed(x)), x a list. -/
namespace TS
open PySem PySem.Spec PyProof.Rows L2
section
variable {prog : Program} {w : World} {A : Around} {E : Value → Shared → Prop} {s : Shared}
abbrev nil0 : Obj := { cls := .type "list", data := .seq #[] }
/-- the new list takes all that the iterator yields -/
theorem ext_rev {R : Result → Shared → Prop} {it l S : Addr} {xs : Array Value} {c0 : Nat} (hA : A.handled = none) (hi : s.heap.IsRevIter it l ((xs.size : Int) - 1)) (hl : s.heap.IsList l xs) (ne : l ≠ it) (nS : S ≠ it) (nl : S ≠ l) (hz : xs.size ≤ sizeLine)
    (hS : s.heap.get? S = some { cls := .type "list", data := .seq #[] c0 })
    (q : ∀ (h' : Heap) (tk : Nat) (acc : Array Value) (c' : Nat), (∀ b o, b ≠ S → b ≠ it → s.heap.get? b = some o → h'.get? b = some o) → h'.get? S = some { cls := .type "list", dict := none, data := .seq acc c', slots := #[] } →
      ItemsOf (fun i v => xs[xs.size - 1 - i]? = some v) acc xs.size → R (.ok (.ret .none)) { s with heap := h', toks := tk }) :
    wpAny (model prog w) A.in1 (Builtin.List.listExtendWith (.ref S) (.ref it) .none)
      (fun fin s' => match fin with
        | .done f => R (.ok f) s'
        | .again c' => c'.quiet = true ∧ codeAny (model prog w) A c' R s') (fun e s' => R (.error e) s') s := by
  have ty : s.TypeIs (.ref it) "list_reverseiterator" := hi.typeIs
  have wk := (Walks.listRev (prog := prog) (w := w) (A := A.in1) hA it l ne xs).toS
  have far : S ∉ [it, l] := by simp [nS, nl]
  have same : Builtin.List.listSameRef (.ref S) (.ref it) = false := by simp [Builtin.List.listSameRef, nS]
  unfold Builtin.List.listExtendWith
  apply wpAny_bind
  apply wpAny_typeOf ty
  rw [if_neg (by rw [same]; decide)]
  apply wpAny_bind
  apply wpAny_pyIter_revIter hi
  apply wpAny_bind
  apply wpAny_holding
  unfold Builtin.List.listLengthHint
  apply wpAny_bind
  apply wpAny_specialOf ty RT.nolen_lri
  show wpAny _ A.in1 (specialOf (Value.ref it) (Str.ofString "__length_hint__") >>= _) _ _ _
  apply wpAny_bind
  apply wpAny_specialOf ty RT.hint_lri
  generalize hj : ("list_reverseiterator.__length_hint__" : String) = j
  wp_delta
  rw [show splitId j = some ("list_reverseiterator", "__length_hint__") from by subst hj; decide +kernel]
  subst hj
  apply wpAny_bind
  refine wpAny_isInstance (b := true) ty (by rw [isSubtype_type]; kernel_rfl) ?_
  apply wpAny_pure
  rw [if_neg (by decide)]
  have z0 : ((xs.size : Nat) : Int) - 1 - ((0 : Nat) : Int) = (xs.size : Int) - 1 := by omega
  refine wpAny_pure ⟨plainId_quiet F.plain_extend_loop _, ?_⟩
  refine codeAny_extend_loopS wk hz S far _ xs.size 0 _ _ _ rfl (Nat.zero_le _) ⟨Nat.zero_le _, by rw [z0]; exact hi, hl⟩ hS (ItemsOf.nil _) ?_
  intro s2 acc c2 mv hS2 got
  rw [Moved.eq_with mv]
  refine q s2.heap s2.toks acc c2 (fun b o h1 h2 e => mv.heap b o (fun m => ?_) e) hS2 got
  simp only [List.mem_cons, List.not_mem_nil, or_false] at m
  rcases m with m | m
  · exact h1 m
  · exact h2 m
theorem call_lrev {it l : Addr} {xs : Array Value} {Q : Value → Shared → Prop} (hA : A.handled = none) (hi : s.heap.IsRevIter it l ((xs.size : Int) - 1)) (hl : s.heap.IsList l xs) (ne : l ≠ it) (hz : xs.size ≤ sizeLine)
    (q : ∀ (h' : Heap) (tk : Nat) (acc : Array Value) (c' : Nat), (∀ b o, b ≠ it → s.heap.get? b = some o → h'.get? b = some o) → h'.get? s.heap.objs.size = some { cls := .type "list", dict := none, data := .seq acc c', slots := #[] } →
      ItemsOf (fun i v => xs[xs.size - 1 - i]? = some v) acc xs.size → Q (.ref s.heap.objs.size) { s with heap := h', toks := tk }) : wpAny (model prog w) A (call (.type "list") [.ref it]) Q E s := by
  obtain ⟨oi, gi, _⟩ := id hi
  obtain ⟨ol, gl, _⟩ := id hl
  have ni := Nat.ne_of_gt (Heap.lt_size gi)
  have nl := Nat.ne_of_gt (Heap.lt_size gl)
  refine callType_codes (Q₁ := fun u t => u = .ref s.heap.objs.size ∧ t = { s with heap := s.heap.push nil0 }) F.called_list (F.typeCall_list_1 _) F.entry_list_init (code_list_new _ ⟨rfl, rfl⟩) ?_
  rintro u t ⟨rfl, rfl⟩
  have g0 : (s.heap.push nil0).get? s.heap.objs.size = some nil0 := Heap.get?_push_size _ rfl
  refine ⟨⟨_, g0, rfl⟩, F.args_list_init_2 _ _, ?_⟩
  show wpAny _ A.in1.in1 (do
    let old ← Builtin.List.listItems (.ref s.heap.objs.size)
    Builtin.List.listUpdate (.ref s.heap.objs.size) (fun _ => #[])
    letGo old.toList.reverse
    Builtin.List.listExtendWith (.ref s.heap.objs.size) (.ref it) .none) _ _ _
  apply wpAny_bind
  unfold Builtin.List.listItems
  apply wpAny_bind
  apply wpAny_seqItems g0 rfl
  apply wpAny_pure
  show wpAny _ A.in1.in1 (updateSeq s.heap.objs.size (fun _ => #[]) >>= fun _ => letGo (#[] : Array Value).toList.reverse >>= fun _ => Builtin.List.listExtendWith (.ref s.heap.objs.size) (.ref it) .none) _ _ _
  apply wpAny_bind
  refine wpAny_updateSeq g0 rfl ?_
  have g1 := Heap.get?_update_self (Obj.mapSeq fun _ => (#[] : Array Value)) g0 rfl
  have kp : ∀ b o, b ≠ s.heap.objs.size → s.heap.get? b = some o → ((s.heap.push nil0).update s.heap.objs.size (Obj.mapSeq fun _ => (#[] : Array Value))).get? b = some o := fun b o nb e =>
    (Heap.get?_update_other _ _ nb.symm).trans (Heap.get?_push_of_some _ e)
  apply wpAny_bind
  apply wpAny_letGo
  refine ext_rev (A := A.in1) hA (hi.at fun o e => kp _ _ ni.symm e) (hl.at fun o e => kp _ _ nl.symm e) ne ni nl hz g1 ?_
  intro h' tk acc c' k g2 got
  refine ⟨rfl, q h' tk acc c' (fun b o nb e => ?_) g2 got⟩
  have nb2 : b ≠ s.heap.objs.size := Nat.ne_of_lt (Heap.lt_size e)
  exact k b o nb2 nb (kp b o nb2 e)
end
end TS
namespace TS
open PySem PySem.Spec PyProof.Rows L2 RT
def tLRev (K : PySem.W.Frag) (te : TE) : TE := fun σ H Q => te σ H fun v H1 => ∃ (a : Addr) (xs : List V), v = .ref a ∧ SqL K H1 a xs ∧ ∀ q, H1 q = none → Q (.ref q) (upd H1 q (.lst xs.reverse))
theorem pe_lrev {X : Cx} {e : Expr} {te : TE} {p p2 pos pos2 : Pos} (hc : X.calm = true) (bl : Gl X "list" ∧ X.mg "list" = none) (br : Gl X "reversed" ∧ X.mg "reversed" = none) (he : PE X e te) (hs : noStar e = true) :
    PE X (.Call (.Name "list" p) [.Call (.Name "reversed" p2) [e] [] pos2] [] pos) (tLRev X.K te) := by
  have s1 : starEach [e] X.env = (false, eval e X.env) :: starEach [] X.env := star1 hs
  constructor
  intro pins s σ H Q I h
  refine Call_ (ld_blt I bl.1 bl.2 boot_list (callWith_type1 (args_cons ?_ rfl) rfl rfl))
  refine Call_ (ld_blt I br.1 br.2 boot_reversed (callWith_type1 (args_cons ?_ s1) s1 rfl))
  refine thn (he.run pins s σ H _ I h) ?_
  rintro u t ⟨v, H1, J, rv0, a, xs, rfl, hx, q⟩
  cases rv0
  apply args_nil
  obtain ⟨its, rv, pl, hz⟩ := J.list hx
  have isl := pl.isList
  refine call_reversed_list isl ?_
  apply args_nil
  obtain ⟨ol, gl, _⟩ := id isl
  have ne : a ≠ t.heap.objs.size := Nat.ne_of_lt (Heap.lt_size gl)
  have hn : its.toArray.size ≤ sizeLine := by rw [List.size_toArray, ← rv.length]; exact hz
  refine call_lrev (s := { t with heap := t.heap.push (revObj a ((its.toArray.size : Int) - 1)) }) (J.ok.hd hc) ⟨_, Heap.get?_push_size _ rfl, rfl, rfl⟩ (isl.push _) ne hn ?_
  intro h' tk acc c' k g got
  have sz : (t.heap.push (revObj a ((its.toArray.size : Int) - 1))).objs.size = t.heap.objs.size + 1 := Heap.size_push _ _
  have fr : H1 (t.heap.objs.size + 1) = none := J.hok.fresh (Nat.le_succ _)
  refine ⟨.ref (t.heap.objs.size + 1), upd H1 (t.heap.objs.size + 1) (.lst xs.reverse), ?_, by rw [sz]; rfl, q _ fr⟩
  show L2.Inv X pins σ _ { t with heap := h', toks := tk }
  refine Inv.turnedNew (ch := []) J (fun b o _ e => k b o (Nat.ne_of_lt (Heap.lt_size e)) (Heap.get?_push_of_some _ e)) (fun b hb => by cases hb) (Nat.le_succ _) ?_
  refine ⟨by rw [List.length_reverse]; exact hz, acc.toList, c', vals_rev rv got, ?_⟩
  rw [sz] at g
  simpa using g
section
variable {N : Nm} {X : Cx} {T : List (Addr × Str)} {Wx : WX} {a : Expr} {x : TT.E}
theorem pe_lR {fz : Bool} {p p2 pos pos2 : Pos} (c : TT.Cxt) (hc : X.calm = true) (bl : Gl X "list" ∧ X.mg "list" = none) (br : Gl X "reversed" ∧ X.mg "reversed" = none) (he : PE X a (cE N X.K T Wx (TT.evE c x))) (hs : noStar a = true) :
    PE X (.Call (.Name "list" p) [.Call (.Name "reversed" p2) [a] [] pos2] [] pos) (cE N X.K T Wx (one (TT.evE c x) (fun x s => TT.opSem .listRev [x] s) fz)) :=
  PEw (pe_lrev hc bl br he hs) fun σ H Q ⟨L, e, s, re, rs, o⟩ => cE_then re rs o fun w L1 H1 s1 v p1 re1 rs1 rv o1 => by
    simp only [TT.opSem] at o1
    unfold TT.revS at o1
    split at o1
    · rename_i ds e1
      obtain ⟨b, xs, rfl, hs, r⟩ := lstOf_rep rs1 rv e1
      exact ⟨b, xs, rfl, hs, fun q hq => fin_fl rs1 o1 r.rev hq⟩
    · exact no_out o1
theorem pe_tR {fz : Bool} {p p2 pos pos2 : Pos} (c : TT.Cxt) (hc : X.calm = true) (bl : Gl X "tuple" ∧ X.mg "tuple" = none) (br : Gl X "reversed" ∧ X.mg "reversed" = none) (he : PE X a (cE N X.K T Wx (TT.evE c x))) (hs : noStar a = true) :
    PE X (.Call (.Name "tuple" p) [.Call (.Name "reversed" p2) [a] [] pos2] [] pos) (cE N X.K T Wx (one (TT.evE c x) (fun x s => TT.opSem .tupleRev [x] s) fz)) :=
  PEw (pe_tupRev hc bl.1 bl.2 br.1 br.2 he (star1 hs)) fun σ H Q ⟨L, e, s, re, rs, o⟩ => cE_then re rs o fun w L1 H1 s1 v p1 re1 rs1 rv o1 => by
    simp only [TT.opSem] at o1
    unfold TT.revS at o1
    split at o1
    · rename_i ds e1
      obtain ⟨b, xs, rfl, hs, r⟩ := lstOf_rep rs1 rv e1
      exact ⟨b, xs, rfl, hs, fun q hq => fin_tup rs1 o1 r.rev hq⟩
    · exact no_out o1
end
end TS

set_option maxRecDepth 100000
/-! A fresh thing frozen. -/
namespace TS
open PySem PySem.Spec PyProof.Rows L2
section
variable {N : Nm} {X : Cx} {T : List (Addr × Str)} {Wx : WX} {a : Expr}
theorem pe_fz {x : TT.E} (c : TT.Cxt) (ha : PE X a (cE N X.K T Wx (TT.evE c x))) : PE X a (cE N X.K T Wx (TT.evE c (.fz x))) :=
  PEw ha fun σ H Q ⟨L, e, s, re, rs, o⟩ => ⟨L, e, s, re, rs, by
    simp only [TT.evE] at o
    cases h1 : TT.evE c x e s with
    | no => rw [h1] at o; exact o
    | err _ _ => rw [h1] at o; exact o
    | ok w s1 =>
      rw [h1] at o
      simp only [TT.R.bind_ok] at o
      intro L1 H1 p rs1 v rv
      cases w with
      | d y => exact o L1 H1 p rs1 v rv
      | loc l =>
        simp only at o
        split at o
        · rename_i hl
          split at o
          · rename_i d s' h3
            obtain ⟨m, hm, hd, nd, hs'⟩ := freeze_some h3
            rw [if_pos hl.2] at hs'
            obtain ⟨b, ea, ma, ra⟩ := rs1.loc hm nd
            obtain ⟨b', eb, rfl⟩ := rv
            rw [ea] at eb; cases eb
            have ln : l + 1 = L1.length := by rw [rs1.len]; exact hl.2
            have l0 : L.length < L1.length := by rw [rs.len, rs1.len]; omega
            have nin := nin_drop rs1 ea ln
            have k : Keeps L1 L1.dropLast H1 H1 := ⟨fun a _ n _ _ q => n (mem_drop q), fun a u h _ _ => h⟩
            refine o L1.dropLast H1 (p.less (pre_drop p.pre l0) fun a => mem_drop) (by rw [hs']; exact rs1.drop1) (.ref b) ?_
            exact (ra.keeps k rfl).frz nin hd
          · exact False.elim o
        · exact False.elim o⟩
end
end TS

set_option maxRecDepth 100000
/-! Does a def's text say what the small language's text says: a Bool. -/
namespace TS
open PySem PySem.Spec PyProof.Rows L2
/-- where a text stands -/
structure Sp0 where
  N : List Str
  sc : Scope
  fn : Str → Bool
  lam : Bool
def nm1 (x : Str) : Bool := !(x == ("__debug__" : Str)) && !(x == ("__classdict__" : Str))
def visB (sc : Scope) (x : Str) : Bool := match sc.names.lookup x with
  | some .local => true
  | some .cell => true
  | some .free => true
  | _ => false
def glB (sc : Scope) (x : Str) : Bool := match sc.names.lookup x with
  | some .globalImplicit => true
  | _ => false
def isK : TT.D → Const → Bool
  | .non, .none => true
  | .bl b, .bool c => b == c
  | .int i, .int j => decide (i = j)
  | .str x, .str y => decide (x = y)
  | _, _ => false
def bltB (S : Sig) (st : Sp0) (x : Str) : Bool := glB st.sc x && decide (x ∈ S.blts) && nm1 x
def isB (S : Sig) (st : Sp0) (o : TT.Op) (y : Str) : Bool := match o with
  | .isTup => decide (y = "tuple") && bltB S st y
  | .isCls c => glB st.sc y && nm1 y && decide (S.cls.lookup y = some c)
  | _ => false
def b1B (o : TT.Op) : Option Str := match o with
  | .len => some "len"
  | .lenD => some "len"
  | .abs => some "abs"
  | .int => some "int"
  | .sum => some "sum"
  | .max1 => some "max"
  | .min1 => some "min"
  | .sorted => some "sorted"
  | .all => some "all"
  | .any => some "any"
  | .list => some "list"
  | .tuple => some "tuple"
  | _ => none
def b2B (o : TT.Op) : Option Str := match o with
  | .max2 => some "max"
  | .min2 => some "min"
  | .divmod => some "divmod"
  | _ => none
def binB (o : TT.Op) : Option Operator := match o with
  | .add => some .Add
  | .sub => some .Sub
  | .mul => some .Mult
  | .fdiv => some .FloorDiv
  | .mod => some .Mod
  | .pow => some .Pow
  | _ => none
def cmpB (o : TT.Op) : Option CmpOp := match o with
  | .eq => some .Eq
  | .ne => some .NotEq
  | .lt => some .Lt
  | .le => some .LtE
  | .gt => some .Gt
  | .ge => some .GtE
  | .isN => some .Is
  | .notN => some .IsNot
  | .isB => some .Is
  | .notB => some .IsNot
  | .inS => some .In
  | .ninS => some .NotIn
  | .inD => some .In
  | .ninD => some .NotIn
  | .inT => some .In
  | .ninT => some .NotIn
  | _ => none
def subB (o : TT.Op) : Bool := match o with
  | .ix => true
  | .dget => true
  | _ => false
def bmB (o : TT.Op) : Option Str := match o with
  | .append => some "append"
  | .extend => some "extend"
  | .index => some "index"
  | .count => some "count"
  | _ => none
/-- a name that is stored to -/
def tg1B (st : Sp0) (i : Nat) : Expr → Bool
  | .Name x _ => decide (st.N[i]? = some x) && (match st.sc.names.lookup x with
    | some .local => true
    | some .cell => st.fn x
    | _ => false)
  | _ => false
def tgsB (st : Sp0) : List Nat → List Expr → Bool
  | [], [] => true
  | i :: is, e :: es => tg1B st i e && tgsB st is es
  | _, _ => false
def tgB (st : Sp0) : TT.Tg → Expr → Bool
  | .nm i, e => tg1B st i e
  | .tp is, .Tuple es _ _ => tgsB st is es
  | _, _ => false
def Sp0.blk (st : Sp0) (scope : Scope) : Sp0 := ⟨st.N, relS scope st.sc, fun x => scope.names.lookup x == some .cell, st.lam⟩
def Sp0.inl (st : Sp0) (scope : Scope) : Sp0 := ⟨st.N, scope, fun _ => false, false⟩
/-- the block's own names -/
def ownOf (st : Sp0) (own : List Nat) : List (Str × Nat) := own.map fun i => (st.N.getD i ⟨#[]⟩, i)
def isNoArgs (a : Arguments) : Bool := match a with
  | ⟨[], [], none, [], [], none, []⟩ => true
  | _ => false
def isBack : Expr → Bool
  | .Slice none none (some (.UnaryOp .USub (.Constant (.int 1) _ _) _)) _ => true
  | _ => false
/-- list(reversed(..)), tuple(reversed(..)) -/
def vRev (o : TT.Op) (e : Expr) : Option (Str × Str × Expr) := match o with
  | .listRev => (match e with
    | .Call (.Name x _) [.Call (.Name y _) [a] [] _] [] _ => if x = "list" ∧ y = "reversed" then some (x, y, a) else none
    | _ => none)
  | .tupleRev => (match e with
    | .Call (.Name x _) [.Call (.Name y _) [a] [] _] [] _ => if x = "tuple" ∧ y = "reversed" then some (x, y, a) else none
    | _ => none)
  | _ => none
mutual
def chkE (S : Sig) : TT.E → Sp0 → Expr → Bool
  | .v i, st, e => match e with
    | .Name x _ => decide (st.N[i]? = some x) && visB st.sc x && nm1 x
    | _ => false
  | .k d, _, e => match e with
    | .Constant k _ _ => isK d k
    | _ => false
  | .g _ d, st, e => match e with
    | .Name x _ => glB st.sc x && decide (S.cons.lookup x = some d) && nm1 x
    | _ => false
  | .op _ o es, st, e => match es with
    | .cons a .nil => match vRev o e with
      | some (x, y, a') => bltB S st x && bltB S st y && noStar a' && chkE S a st a'
      | none => match e with
        | .UnaryOp .USub a' _ => decide (o = .neg) && chkE S a st a'
        | .Call (.Name x _) [a'] [] _ => decide (b1B o = some x) && bltB S st x && noStar a' && chkE S a st a'
        | .Call (.Name x _) [a', .Name y _] [] _ => decide (x = "isinstance") && isB S st o y && bltB S st x && noStar a' && chkE S a st a'
        | _ => false
    | .cons a (.cons b .nil) => match e with
      | .BinOp a' q b' _ => decide (binB o = some q) && chkE S a st a' && chkE S b st b'
      | .Compare a' [q] [b'] _ => decide (cmpB o = some q) && noSet b' && chkE S a st a' && chkE S b st b'
      | .Subscript a' b' _ => subB o && noSlice b' && chkE S a st a' && chkE S b st b'
      | .Call (.Name x _) [a', b'] [] _ => decide (b2B o = some x) && bltB S st x && noStar a' && noStar b' && chkE S a st a' && chkE S b st b'
      | _ => false
    | _ => false
  | .bm _ o a es, st, e => match e with
    | .Call (.Attribute a' m apos) es' [] pos => noCall a' && (apos.endLine == pos.line) && chkE S a st a' && (match es, es' with
      | .nil, [] => decide (o = .pop) && decide (m = "pop")
      | .cons b .nil, [b'] => decide (bmB o = some m) && noStar b' && chkE S b st b'
      | _, _ => false)
    | _ => false
  | .chain o o' a b d, st, e => match e with
    | .Compare a' [q, q'] [b', d'] _ => decide (coOf o = some q) && decide (coOf o' = some q') && noSet d' && chkE S a st a' && chkE S b st b' && chkE S d st d'
    | _ => false
  | .bop q es, st, e => match e with
    | .BoolOp op es' _ => decide (op = bopOf q) && chkB S es st es'
    | _ => false
  | .not a, st, e => match e with
    | .UnaryOp .Not a' _ => chkE S a st a'
    | _ => false
  | .ife t a b, st, e => match e with
    | .IfExp t' a' b' _ => chkT S t st t' && chkE S a st a' && chkE S b st b'
    | _ => false
  | .tup es, st, e => match e with
    | .Tuple es' _ _ => decide (es.len ≤ 1000) && chkA S es st es'
    | _ => false
  | .lst _ es, st, e => match e with
    | .List es' _ => decide (es.len ≤ 1000) && chkA S es st es'
    | _ => false
  | .dic _ t, _, e => match e with
    | .Dict [] [] _ => decide (t = 0) || (decide (t = 1) || decide (t = 3))
    | _ => false
  | .slc _ a lo hi, st, e => match e with
    | .Subscript a' (.Slice lo' hi' none _) _ => chkE S a st a' && chkO S lo st lo' && chkO S hi st hi'
    | _ => false
  | .rev _ a, st, e => match e with
    | .Subscript a' sl _ => isBack sl && chkE S a st a'
    | _ => false
  | .attr a f, st, e => match e with
    | .Attribute a' m _ => noCall a' && decide (f < S.N.as.length) && decide (m = S.N.an f) && chkE S a st a'
    | _ => false
  | .call f es, st, e => match e with
    | .Call (.Name x _) es' [] _ => glB st.sc x && nm1 x && decide (S.gl.lookup x = some f) && decide (f < S.P.fns.length) && chkA S es st es'
    | _ => false
  | .meth a m es, st, e => match e with
    | .Call (.Attribute a' x apos) es' [] pos => noCall a' && (apos.endLine == pos.line) && decide (es'.length < 20) && decide (x = S.N.mn m) && chkE S a st a' && chkA S es st es'
    | _ => false
  | .new _ c es, st, e => match e with
    | .Call (.Name x _) es' [] _ => glB st.sc x && nm1 x && decide (S.cls.lookup x = some c) && !es'.isEmpty && chkA S es st es' && (match S.P.init c with
      | some n => decide (n < S.P.fns.length)
      | none => false)
    | _ => false
  | .fz a, st, e => match e with
    | .Call f as kws p => chkE S a st (.Call f as kws p)
    | _ => false
  | .new0 c, st, e => match e with
    | .Call (.Name x _) [] [] _ => glB st.sc x && nm1 x && decide (S.cls.lookup x = some c) && decide (S.P.init c = none)
    | _ => false
  | .lc _ own tg it ifs elt, st, e => match e with
    | .ListComp elt' [⟨tg', iter', ifs', 0⟩] scope _ => noSet iter' && chkI S it st tg' iter' && blkC st.N st.sc scope (ownOf st own) && decide (scope.kind = .function) && (tgs tg).all (fun i => decide (i ∈ own)) && tgB (st.blk scope) tg tg' && chkC S ifs (st.blk scope) ifs' && chkE S elt (st.blk scope) elt'
    | _ => false
  | .ask a, st, e => match e with
    | .Call (.Name x _) [.Lambda args body scope _] [] _ => st.lam && glB st.sc x && nm1 x && decide (x = S.asked) && isNoArgs args && LamX.lamSB st.sc scope && chkE S a (st.inl scope) body
    | _ => false
/-- as a test -/
def chkT (S : Sig) : TT.E → Sp0 → Expr → Bool
  | x, st, e => match x with
    | .not a => match e with
      | .UnaryOp .Not a' _ => chkT S a st a'
      | _ => false
    | .bop q es => match e with
      | .BoolOp op es' _ => decide (op = bopOf q) && chkW S es st es'
      | _ => false
    | .chain o o' a b d => match e with
      | .Compare a' [q, q'] [b', d'] _ => decide (coOf o = some q) && decide (coOf o' = some q') && noSet d' && chkE S a st a' && chkE S b st b' && chkE S d st d'
      | _ => false
    | .op _ o (.cons a (.cons b .nil)) => match e with
      | .Compare a' [q] [b'] _ => decide (cmpB o = some q) && noSet b' && chkE S a st a' && chkE S b st b'
      | _ => false
    | .op fz o (.cons a .nil) => match e with
      | .Call (.Name x _) [a'] [] _ => decide (b1B o = some x) && bltB S st x && noStar a' && chkE S a st a'
      | .Call (.Name x _) [a', .Name y _] [] _ => decide (x = "isinstance") && isB S st o y && bltB S st x && noStar a' && chkE S a st a'
      | _ => false
    | .v i => match e with
      | .Name x _ => decide (st.N[i]? = some x) && visB st.sc x && nm1 x
      | _ => false
    | .call f es => match e with
      | .Call (.Name x _) es' [] _ => glB st.sc x && nm1 x && decide (S.gl.lookup x = some f) && decide (f < S.P.fns.length) && chkA S es st es'
      | _ => false
    | .meth a m es => match e with
      | .Call (.Attribute a' x apos) es' [] pos => noCall a' && (apos.endLine == pos.line) && decide (es'.length < 20) && decide (x = S.N.mn m) && chkE S a st a' && chkA S es st es'
      | _ => false
    | _ => false
/-- and, or, as a test -/
def chkW (S : Sig) : TT.Es → Sp0 → List Expr → Bool
  | .nil, _, _ => false
  | .cons a r, st, es => match es with
    | [a'] => chkT S a st a' && (match r with
      | .nil => true
      | _ => false)
    | a' :: b' :: rest => chkT S a st a' && (match r with
      | .nil => false
      | _ => true) && chkW S r st (b' :: rest)
    | [] => false
def chkB (S : Sig) : TT.Es → Sp0 → List Expr → Bool
  | .nil, _, _ => false
  | .cons a r, st, es => match es with
    | [a'] => chkE S a st a' && (match r with
      | .nil => true
      | _ => false)
    | a' :: b' :: rest => chkE S a st a' && (match r with
      | .nil => false
      | _ => true) && chkB S r st (b' :: rest)
    | [] => false
/-- arguments -/
def chkA (S : Sig) : TT.Es → Sp0 → List Expr → Bool
  | .nil, _, es => es.isEmpty
  | .cons a r, st, es => match es with
    | a' :: rest => noStar a' && chkE S a st a' && chkA S r st rest
    | [] => false
def chkO (S : Sig) : TT.Es → Sp0 → Option Expr → Bool
  | .nil, _, e => e.isNone
  | .cons a _, st, e => match e with
    | some a' => chkE S a st a'
    | none => false
def chkC (S : Sig) : TT.Es → Sp0 → List Expr → Bool
  | .nil, _, es => es.isEmpty
  | .cons a r, st, es => match es with
    | [a'] => chkT S a st a' && (match r with
      | .nil => true
      | _ => false)
    | _ => false
def chkI (S : Sig) : TT.It → Sp0 → Expr → Expr → Bool
  | .seq a, st, _, e => chkE S a st e
  | .txt a, st, _, e => chkE S a st e
  | .rng1 a, st, _, e => match e with
    | .Call (.Name x _) [a'] [] _ => decide (x = "range") && bltB S st x && noStar a' && chkE S a st a'
    | _ => false
  | .rng2 a b, st, _, e => match e with
    | .Call (.Name x _) [a', b'] [] _ => decide (x = "range") && bltB S st x && noStar a' && noStar b' && chkE S a st a' && chkE S b st b'
    | _ => false
  | .enm a, st, tg, e => match e with
    | .Call (.Name x _) [a'] [] _ => decide (x = "enumerate") && bltB S st x && noStar a' && (match tg with
      | .Tuple _ _ _ => true
      | _ => false) && chkE S a st a'
    | _ => false
  | .revs a, st, _, e => match e with
    | .Call (.Name x _) [a'] [] _ => decide (x = "reversed") && bltB S st x && noStar a' && chkE S a st a'
    | _ => false
  | .zip _ _, _, _, _ => false
end
end TS

set_option maxRecDepth 100000
/-! The Bool is right: expressions. -/
namespace TS
open PySem PySem.Spec PyProof.Rows L2
/-- what the module keeps -/
structure BaseF (S : Sig) (K : PySem.W.Frag) (mg : Str → Option Value) : Prop where
  nm : NmOk S.N K
  blt : ∀ x ∈ S.blts, mg x = none ∧ x ≠ "__name__"
  con : ∀ x d, S.cons.lookup x = some d → ∃ (u : Value) (v : L2.V), mg x = some u ∧ RelV v u ∧ ∀ L H, RepD S.N K L H v d
  gl : ∀ x n, S.gl.lookup x = some n → mg x = some (.ref (S.fa K n)) ∧ PySem.W.keepIn K (.ref (S.fa K n)) = true
  cls : ∀ x cl, S.cls.lookup x = some cl → cl < S.N.cs.length ∧ mg x = some (.ref (S.N.ca K cl)) ∧ ∀ n, S.P.init cl = some n → Mk K (S.N.ca K cl) (S.fa K n)
  nw : ∀ x cl, S.cls.lookup x = some cl → S.P.init cl = none → Mk0 K (S.N.ca K cl)
  isi : IsiK S.N K
  eqo : ∀ c, c < S.N.cs.length → OEq K (S.N.ca K c)
  meth : ∀ cl m n, S.P.meth cl m = some n → n < S.P.fns.length ∧ Meth K (S.N.ca K cl) (S.N.mn m) (S.fa K n)
  exc : ∀ i x, S.N.es[i]? = some x → mg x = some (.ref (S.N.ea K i)) ∧ PySem.W.excIn K (S.N.ea K i) He.veBase "ValueError.__new__" = true ∧ PySem.W.keepIn K (.ref (S.N.ea K i)) = true ∧
    PySem.W.subIn K (.ref (S.N.ea K i)) (.type "BaseException") = some true ∧ PySem.W.typeIn K (.ref (S.N.ea K i)) = some (.type "type")
def FnAt (N : Nm) (P : Program) (w : World) (K : PySem.W.Frag) (mg : Str → Option Value) (base : Heap) (T : List (Addr × Str)) (k : Nat) (φ : List W → Sto → TT.R W) (fa : Addr) : Prop :=
  ∃ (fd : FuncData) (ps : List Str), FnOk P w K mg base (L2.CX P w) k fa fd ps (spF N K T φ) ∧ Binds K fd ps []
structure Base (S : Sig) (P : Program) (w : World) (K : PySem.W.Frag) (mg : Str → Option Value) (base : Heap) (T : List (Addr × Str)) (l : Nat) (F : Nat → TT.Fun) : Prop where
  f : BaseF S K mg
  lev : ∀ i, i < l → ∀ n, n < S.P.fns.length → FnAt S.N P w K mg base T (l - i) (F i n) (S.fa K n)
structure Good (S : Sig) (T : List (Addr × Str)) (st : Sp0) (X : Cx) (c : TT.Cxt) (Wx : WX) (l : Nat) : Prop where
  N : X.N = st.N
  nd : X.N.Nodup
  sc : X.env.scope = st.sc
  kind : st.sc.kind = .function
  fn : ∀ x, st.fn x = true → X.fn x = true
  calm : X.calm = true
  room : Room l X.A
  tk : L2.Takes X Wx
  P : c.P = S.P
  b : Base S X.prog X.w X.K X.mg X.base T l c.F
  lv : 2 ≤ l
  lam : st.lam = true → 4 ≤ l ∧ LamAt X T ∧ AskOk S.N X.prog X.w X.K X.mg X.base T S.P.words S.asked
section
variable {S : Sig} {T : List (Addr × Str)} {st : Sp0} {X : Cx} {c : TT.Cxt} {Wx : WX} {l : Nat}
theorem Good.units (g : Good S T st X c Wx l) : X.A.units + 64 < cLine := by
  have := g.room.un
  omega
theorem Good.units1 (g : Good S T st X c Wx l) : X.A.units + 65 < cLine := by
  have := g.room.un
  omega
theorem vis_of {sc : Scope} {x : Str} (h : visB sc x = true) : Vis sc x := by
  unfold visB at h
  split at h
  · rename_i e; exact .inl e
  · rename_i e; exact .inr (.inl e)
  · rename_i e; exact .inr (.inr e)
  · cases h
theorem Good.gl (g : Good S T st X c Wx l) {x : Str} (h : glB st.sc x = true) : Gl X x := by
  unfold glB at h
  split at h
  · rename_i e
    show X.env.scope.names.lookup x = _
    rw [g.sc]; exact e
  · cases h
theorem nm_of {x : Str} (h : nm1 x = true) : (x == ("__debug__" : Str)) = false ∧ (x == ("__classdict__" : Str)) = false := by
  unfold nm1 at h
  rw [Bool.and_eq_true] at h
  exact ⟨by simpa using h.1, by simpa using h.2⟩
theorem Good.blt (g : Good S T st X c Wx l) {x : Str} {v : Value} (h : bltB S st x = true) (e : bootBuiltins x = some v) : Blt X x v := by
  unfold bltB at h
  simp only [Bool.and_eq_true, decide_eq_true_eq] at h
  exact ⟨g.gl h.1.1, (g.b.f.blt x h.1.2).1, e, (g.b.f.blt x h.1.2).2, (nm_of h.2).1⟩
theorem Good.blt2 (g : Good S T st X c Wx l) {x : Str} (h : bltB S st x = true) : Gl X x ∧ X.mg x = none := by
  unfold bltB at h
  simp only [Bool.and_eq_true, decide_eq_true_eq] at h
  exact ⟨g.gl h.1.1, (g.b.f.blt x h.1.2).1⟩
theorem isK_of {d : TT.D} {k : Const} (h : isK d k = true) : IsK d k := by
  unfold isK at h
  split at h
  · exact .non
  · have := eq_of_beq h; subst this; exact .bl _
  · have := of_decide_eq_true h; subst this; exact .int _
  · have := of_decide_eq_true h; subst this; exact .str _
  · cases h
theorem bin_snd {o : TT.Op} {q : Operator} (h : binB o = some q) : Snd2 S.N X T (binaryOp q) (fun x y s => TT.opSem o [x, y] s) := by
  unfold binB at h
  split at h <;> (try cases h)
  · exact snd_add
  · exact snd_sub
  · exact snd_mul
  · exact snd_fdiv
  · exact snd_mod
  · exact snd_pow
theorem cmp_snd {o : TT.Op} {q : CmpOp} (hu : X.A.units + 64 < cLine) (hO : ∀ c, c < S.N.cs.length → OEq X.K (S.N.ca X.K c)) (h : cmpB o = some q) : Snd2 S.N X T (compareOp q) (fun x y s => TT.opSem o [x, y] s) := by
  unfold cmpB at h
  split at h <;> (try cases h)
  · exact snd_eq hu hO
  · exact snd_ne hu
  · exact snd_lt hu
  · exact snd_le
  · exact snd_gt
  · exact snd_ge
  · exact snd_isN
  · exact snd_notN
  · exact snd_isB
  · exact snd_notB
  · exact snd_inS hu
  · exact snd_ninS hu
  · exact snd_inD hu
  · exact snd_ninD hu
  · exact snd_inT
  · exact snd_ninT
theorem Good.call1 {a : Expr} {f : TT.Env → Sto → TT.R W} {fz : Bool} {p pos : Pos} (g : Good S T st X c Wx l) {o : TT.Op} {x : Str} (h : b1B o = some x) (hb : bltB S st x = true) (hs : noStar a = true) (ha : PE X a (cE S.N X.K T Wx f)) :
    PE X (.Call (.Name x p) [a] [] pos) (cE S.N X.K T Wx (one f (fun x s => TT.opSem o [x] s) fz)) := by
  unfold b1B at h
  split at h <;> (try cases h)
  · exact pe_b1 (g.blt hb rfl) snd_len ha hs
  · exact pe_b1 (g.blt hb rfl) snd_lenD ha hs
  · exact pe_b1 (g.blt hb rfl) snd_abs ha hs
  · exact pe_t1 (g.blt hb rfl) snd_int ha hs
  · exact pe_b1 (g.blt hb rfl) (snd_sum g.calm) ha hs
  · exact pe_b1 (g.blt hb rfl) (snd_max1 g.calm) ha hs
  · exact pe_b1 (g.blt hb rfl) (snd_min1 g.calm) ha hs
  · exact pe_b1 (g.blt hb rfl) (snd_sorted g.units) ha hs
  · exact pe_b1 (g.blt hb rfl) (snd_all g.calm) ha hs
  · exact pe_b1 (g.blt hb rfl) (snd_any g.calm) ha hs
  · exact pe_t1 (g.blt hb rfl) snd_list ha hs
  · exact pe_t1 (g.blt hb rfl) snd_tuple ha hs
theorem Good.isC {a : Expr} {f : TT.Env → Sto → TT.R W} {fz : Bool} {y : Str} {p p2 pos : Pos} (g : Good S T st X c Wx l) {o : TT.Op} (h : isB S st o y = true) (hb : bltB S st "isinstance" = true) (hs : noStar a = true) (ha : PE X a (cE S.N X.K T Wx f)) :
    PE X (.Call (.Name "isinstance" p) [a, .Name y p2] [] pos) (cE S.N X.K T Wx (one f (fun x s => TT.opSem o [x] s) fz)) := by
  unfold isB at h
  split at h
  · simp only [Bool.and_eq_true, decide_eq_true_eq] at h
    obtain ⟨rfl, h⟩ := h
    exact pe_isT (g.blt hb rfl) (g.blt h rfl) ha hs
  · simp only [Bool.and_eq_true, decide_eq_true_eq] at h
    obtain ⟨⟨h1, h2⟩, h3⟩ := h
    obtain ⟨k1, k2, _⟩ := g.b.f.cls _ _ h3
    exact pe_isC k1 g.b.f.isi g.b.f.nm.cls (g.blt hb rfl) (g.gl h1) k2 (nm_of h2).1 ha hs
  · cases h
theorem Good.call2 {a b : Expr} {f f' : TT.Env → Sto → TT.R W} {fz : Bool} {p pos : Pos} (g : Good S T st X c Wx l) {o : TT.Op} {x : Str} (h : b2B o = some x) (hb : bltB S st x = true) (hs : noStar a = true) (hs' : noStar b = true) (ha : PE X a (cE S.N X.K T Wx f)) (hb' : PE X b (cE S.N X.K T Wx f')) :
    PE X (.Call (.Name x p) [a, b] [] pos) (cE S.N X.K T Wx (two f f' (fun x y s => TT.opSem o [x, y] s) fz)) := by
  unfold b2B at h
  split at h <;> (try cases h)
  · exact pe_b2 (g.blt hb rfl) (snd_max2 g.calm) ha hb' hs hs'
  · exact pe_b2 (g.blt hb rfl) (snd_min2 g.calm) ha hb' hs hs'
  · exact pe_b2 (g.blt hb rfl) snd_divmod ha hb' hs hs'
theorem Good.tg1 (g : Good S T st X c Wx l) {i : Nat} {e : Expr} (h : tg1B st i e = true) : ∃ x p, e = .Name x p ∧ TgNm X x i := by
  unfold tg1B at h
  split at h
  · rename_i x p
    simp only [Bool.and_eq_true, decide_eq_true_eq] at h
    refine ⟨x, p, rfl, by rw [g.N]; exact h.1, ?_, ?_⟩
    · have h2 := h.2
      split at h2
      · rename_i q; exact .inl (by rw [g.sc]; exact q)
      · rename_i q; exact .inr (by rw [g.sc]; exact q)
      · cases h2
    · have h2 := h.2
      split at h2
      · rename_i q; exact .inr (by rw [g.sc]; exact q)
      · exact .inl (g.fn x h2)
      · cases h2
  · cases h
theorem Good.tgs (g : Good S T st X c Wx l) : ∀ {is : List Nat} {es : List Expr}, tgsB st is es = true → TgNms X es is
  | [], [], _ => .nil
  | i :: is, e :: es, h => by
    simp only [tgsB, Bool.and_eq_true] at h
    obtain ⟨x, p, rfl, t⟩ := g.tg1 h.1
    exact .cons t (g.tgs h.2)
  | [], _ :: _, h => by cases h
  | _ :: _, [], h => by cases h
theorem Good.tg (g : Good S T st X c Wx l) {t : TT.Tg} {e : Expr} (h : tgB st t e = true) : PG X e (gT X.K t) := by
  unfold tgB at h
  split at h
  · obtain ⟨x, p, rfl, t⟩ := g.tg1 h
    exact pg_nm g.nd t
  · exact pg_tp g.nd g.calm (g.tgs h)
  · cases h
/-- in a comprehension's block -/
theorem Good.blk (g : Good S T st X c Wx l) {scope : Scope} (hk : scope.kind = .function) (s : Shared) (H : Hp) (C : Addr) (cl : List (Str × Addr)) (fp : List Addr) : Good S T (st.blk scope) (X.blk s H scope (compEnvC scope cl C X.env) fp) c Wx0 l where
  N := g.N
  nd := g.nd
  sc := by
    show relS scope X.env.scope = _
    rw [g.sc]; rfl
  kind := hk
  fn := fun x h => h
  calm := g.calm
  room := g.room
  tk := fun _ _ x => by
    obtain ⟨_, _, _, _, _, _, _, _, _, _, _, _, _, _, _, _, z⟩ := x
    exact z.elim
  P := g.P
  b := g.b
  lv := g.lv
  lam := fun h => by
    obtain ⟨h1, ⟨cc, P, k1, k2, k3, k4⟩, h3⟩ := g.lam h
    exact ⟨h1, ⟨cc, P, k1, k2, k3, k4⟩, h3⟩
theorem Base.down {P : Program} {w : World} {K : PySem.W.Frag} {mg : Str → Option Value} {base : Heap} {F : Nat → TT.Fun} (b : Base S P w K mg base T (l + 2) F) : Base S P w K mg base T l (fun i => F (i + 2)) where
  f := b.f
  lev := fun i hi n hn => by
    have := b.lev (i + 2) (by omega) n hn
    rwa [show l + 2 - (i + 2) = l - i by omega] at this
/-- in a lambda -/
theorem Good.inl (g : Good S T st X c Wx (l + 2)) (hl : 2 ≤ l) {scope : Scope} (hk : scope.kind = .function) (A : Around) (outer : List Env) (s : Shared) (H : Hp) (E : XK) (f c' : Addr) (hr : Room l (A.deeper (LamX.lamEnv X scope s.heap.objs.size f c'))) :
    Good S T (st.inl scope) (LamX.lamCx X A outer s H E scope f c') c.down (fun cls d _ H => E cls d H) l where
  N := g.N
  nd := g.nd
  sc := rfl
  kind := hk
  fn := fun x h => by cases h
  calm := rfl
  room := hr
  tk := L2.takes_of rfl rfl rfl rfl
  P := g.P
  b := g.b.down
  lv := hl
  lam := fun h => by cases h
theorem Good.at_ (g : Good S T st X c Wx l) (i : Nat) (hi : i < l) {n : Nat} (hn : n < S.P.fns.length) : FnAt S.N X.prog X.w X.K X.mg X.base T (l - i) (c.F i n) (S.fa X.K n) := g.b.lev i hi n hn
end
end TS

set_option maxRecDepth 100000
set_option maxHeartbeats 4000000
/-! The Bool is right: expressions, all of them. -/
namespace TS
open PySem PySem.Spec PyProof.Rows L2
variable {S : Sig} {T : List (Addr × Str)}
theorem isBack_of {e : Expr} (h : isBack e = true) : ∃ k p1 p2 p3, e = backSl k p1 p2 p3 := by
  unfold isBack at h
  split at h
  · exact ⟨_, _, _, _, rfl⟩
  · cases h
theorem noArgs_of {a : Arguments} (h : isNoArgs a = true) : a = noArgs := by
  unfold isNoArgs at h
  split at h
  · rfl
  · cases h
theorem own_map (st : Sp0) (own : List Nat) : (ownOf st own).map (·.2) = own := by
  unfold ownOf
  rw [List.map_map]
  exact List.map_id' own
theorem op1_ev {c : TT.Cxt} {fz : Bool} {o : TT.Op} {a : TT.E} {X : Cx} {e : Expr} {Wx : WX} (h : PE X e (cE S.N X.K T Wx (one (TT.evE c a) (fun x s => TT.opSem o [x] s) fz))) : PE X e (cE S.N X.K T Wx (TT.evE c (.op fz o (.cons a .nil)))) := by
  rw [ev_op1]; exact h
theorem op2_ev {c : TT.Cxt} {fz : Bool} {o : TT.Op} {a b : TT.E} {X : Cx} {e : Expr} {Wx : WX} (h : PE X e (cE S.N X.K T Wx (two (TT.evE c a) (TT.evE c b) (fun x y s => TT.opSem o [x, y] s) fz))) : PE X e (cE S.N X.K T Wx (TT.evE c (.op fz o (.cons a (.cons b .nil))))) := by
  rw [ev_op2]; exact h
theorem sub_snd {X : Cx} {o : TT.Op} {c : TT.Cxt} {fz : Bool} {a b : TT.E} {a' b' : Expr} {p : Pos} {Wx : WX} (hu : X.A.units + 64 < cLine) (h : subB o = true) (hs : noSlice b' = true) (ha : PE X a' (cE S.N X.K T Wx (TT.evE c a))) (hb : PE X b' (cE S.N X.K T Wx (TT.evE c b))) :
    PE X (.Subscript a' b' p) (cE S.N X.K T Wx (TT.evE c (.op fz o (.cons a (.cons b .nil))))) := by
  unfold subB at h
  split at h
  · exact op2_ev (pe_item snd_ix ha hb hs)
  · exact op2_ev (pe_item (snd_dget hu) ha hb hs)
  · cases h
theorem allA {c : TT.Cxt} : ∀ {es : TT.Es} {st : Sp0} {es' : List Expr}, chkA S es st es' = true → es'.all noStar = true
  | .nil, st, es', h => by
    simp only [chkA, List.isEmpty_iff] at h
    subst h; rfl
  | .cons a r, st, es', h => by
    simp only [chkA] at h
    split at h
    · simp only [Bool.and_eq_true] at h
      simp only [List.all_cons, Bool.and_eq_true]
      exact ⟨h.1.1, allA (c := c) h.2⟩
    · cases h
theorem bm_case {X : Cx} {o : TT.Op} {c : TT.Cxt} {fz : Bool} {a b : TT.E} {a' b' : Expr} {m : Str} {apos pos : Pos} {Wx : WX} (hu : X.A.units + 65 < cLine) (h : bmB o = some m) (ha : PE X a' (cE S.N X.K T Wx (TT.evE c a))) (hx : PA X [b'] (cA S.N X.K T Wx (TT.evEs c (.cons b .nil)))) (hb : noCall a' = true) (hl : (apos.endLine == pos.line) = true) (hs : noStar b' = true) :
    PE X (.Call (.Attribute a' m apos) [b'] [] pos) (cE S.N X.K T Wx (TT.evE c (.bm fz o a (.cons b .nil)))) := by
  unfold bmB at h
  split at h <;> (try cases h)
  · exact pe_ap c ha hx hb hl hs
  · exact pe_ex c ha hx hb hl hs
  · exact pe_idx c hu ha hx hb hl hs
  · exact pe_cnt c ha hx hb hl hs
theorem nilA {es : TT.Es} {st : Sp0} (h : chkA S es st [] = true) : es = .nil := by
  cases es with
  | nil => rfl
  | cons a r => simp [chkA] at h
theorem okCall {X : Cx} {c : TT.Cxt} {Wx : WX} {l k n : Nat} {fa : Addr} {fd : FuncData} {ps : List Str} {x : Str} {es : TT.Es} {es' : List Expr} {p pos : Pos} (pa : PA X es' (cA S.N X.K T Wx (TT.evEs c es))) (al : es'.all noStar = true) (nl : es' = [] → es = .nil)
    (F : FnOk X.prog X.w X.K X.mg X.base (L2.CX X.prog X.w) k fa fd ps (spF S.N X.K T (c.F 0 n))) (hr : Room k X.A) (hg : Gl X x) (hm : X.mg x = some (.ref fa)) (hk : PySem.W.keepIn X.K (.ref fa) = true) (hb : Binds X.K fd ps []) (tk : L2.Takes X Wx) (hd : (x == ("__debug__" : Str)) = false) :
    PE X (.Call (.Name x p) es' [] pos) (cE S.N X.K T Wx (TT.evE c (.call n es))) := by
  cases es' with
  | nil =>
    have := nl rfl
    subst this
    exact pe_cl0 c F hr hg hm hk hb tk hd
  | cons a r => exact pe_cl c F hr hg hm hk hb tk pa hd al
theorem okMeth {X : Cx} {c : TT.Cxt} {Wx : WX} {k m : Nat} {x : Str} {a : TT.E} {a' : Expr} {es : TT.Es} {es' : List Expr} {apos pos : Pos} (pa : PA X es' (cA S.N X.K T Wx (TT.evEs c es))) (al : es'.all noStar = true) (nl : es' = [] → es = .nil)
    (ok : NmOk S.N X.K) (hx : x = S.N.mn m) (M : ∀ cl n, c.P.meth cl m = some n → MethAt S.N X T k c cl m n) (hr : Room k X.A) (tk : L2.Takes X Wx) (ha : PE X a' (cE S.N X.K T Wx (TT.evE c a))) (h1 : noCall a' = true) (h2 : (apos.endLine == pos.line) = true) (h3 : es'.length < 20) :
    PE X (.Call (.Attribute a' x apos) es' [] pos) (cE S.N X.K T Wx (TT.evE c (.meth a m es))) := by
  cases es' with
  | nil =>
    have := nl rfl
    subst this
    exact pe_mt0 ok c hx M hr tk ha h1 h2
  | cons b r => exact pe_mt ok c hx M hr tk ha pa h1 al (by simp at h3; omega) h2
theorem rev_case {X : Cx} {c : TT.Cxt} {Wx : WX} {l : Nat} {st : Sp0} {o : TT.Op} {e a' : Expr} {x y : Str} {a : TT.E} {fz : Bool} (g : Good S T st X c Wx l) (h : vRev o e = some (x, y, a')) (h1 : bltB S st x = true) (h2 : bltB S st y = true) (h3 : noStar a' = true) (ha : PE X a' (cE S.N X.K T Wx (TT.evE c a))) :
    PE X e (cE S.N X.K T Wx (TT.evE c (.op fz o (.cons a .nil)))) := by
  unfold vRev at h
  split at h
  · split at h
    · split at h
      · rename_i q
        simp only [Option.some.injEq, Prod.mk.injEq] at h
        obtain ⟨rfl, rfl, rfl⟩ := h
        obtain ⟨rfl, rfl⟩ := q
        exact op1_ev (pe_lR c g.calm (g.blt2 h1) (g.blt2 h2) ha h3)
      · cases h
    · cases h
  · split at h
    · split at h
      · rename_i q
        simp only [Option.some.injEq, Prod.mk.injEq] at h
        obtain ⟨rfl, rfl, rfl⟩ := h
        obtain ⟨rfl, rfl⟩ := q
        exact op1_ev (pe_tR c g.calm (g.blt2 h1) (g.blt2 h2) ha h3)
      · cases h
    · cases h
  · cases h
mutual
theorem sndE : ∀ (x : TT.E) (st : Sp0) (e : Expr), chkE S x st e = true → ∀ {X : Cx} {c : TT.Cxt} {Wx : WX} {l : Nat}, Good S T st X c Wx l → PE X e (cE S.N X.K T Wx (TT.evE c x))
  | .v i, st, e, h, X, c, Wx, l, g => by
    simp only [chkE] at h
    split at h
    · simp only [Bool.and_eq_true, decide_eq_true_eq] at h
      exact pe_v (by rw [g.N]; exact h.1.1) (by rw [g.sc]; exact vis_of h.1.2) (nm_of h.2).1 (nm_of h.2).2 c
    · cases h
  | .k d, st, e, h, X, c, Wx, l, g => by
    simp only [chkE] at h
    split at h
    · exact pe_k (isK_of h) c
    · cases h
  | .g n d, st, e, h, X, c, Wx, l, g => by
    simp only [chkE] at h
    split at h
    · simp only [Bool.and_eq_true, decide_eq_true_eq] at h
      obtain ⟨u, v, h1, h2, h3⟩ := g.b.f.con _ _ h.1.2
      exact pe_g (n := n) (g.gl h.1.1) h1 h2 (nm_of h.2).1 h3 c
    · cases h
  | .op fz o es, st, e, h, X, c, Wx, l, g => by
    unfold chkE at h
    split at h
    · rename_i a
      split at h
      · rename_i e1
        simp only [Bool.and_eq_true] at h
        exact rev_case g e1 h.1.1.1 h.1.1.2 h.1.2 (sndE a st _ h.2 g)
      split at h
      · simp only [Bool.and_eq_true, decide_eq_true_eq] at h
        obtain ⟨rfl, h⟩ := h
        exact op1_ev (pe_neg (sndE a st _ h g))
      · simp only [Bool.and_eq_true, decide_eq_true_eq] at h
        exact op1_ev (g.call1 h.1.1.1 h.1.1.2 h.1.2 (sndE a st _ h.2 g))
      · simp only [Bool.and_eq_true, decide_eq_true_eq] at h
        obtain ⟨⟨⟨⟨rfl, h1⟩, h2⟩, h3⟩, h4⟩ := h
        exact op1_ev (g.isC h1 h2 h3 (sndE a st _ h4 g))
      · cases h
    · rename_i a b
      split at h
      · simp only [Bool.and_eq_true, decide_eq_true_eq] at h
        exact op2_ev (pe_bin (bin_snd h.1.1) (sndE a st _ h.1.2 g) (sndE b st _ h.2 g))
      · simp only [Bool.and_eq_true, decide_eq_true_eq] at h
        exact op2_ev (pe_cp (cmp_snd g.units g.b.f.eqo h.1.1.1) (sndE a st _ h.1.2 g) (sndE b st _ h.2 g) (marks_no h.1.1.2))
      · simp only [Bool.and_eq_true] at h
        exact sub_snd g.units h.1.1.1 h.1.1.2 (sndE a st _ h.1.2 g) (sndE b st _ h.2 g)
      · simp only [Bool.and_eq_true, decide_eq_true_eq] at h
        exact op2_ev (g.call2 h.1.1.1.1.1 h.1.1.1.1.2 h.1.1.1.2 h.1.1.2 (sndE a st _ h.1.2 g) (sndE b st _ h.2 g))
      · cases h
    · cases h
  | .bm fz o a es, st, e, h, X, c, Wx, l, g => by
    unfold chkE at h
    split at h
    · simp only [Bool.and_eq_true] at h
      obtain ⟨⟨⟨h1, h2⟩, h3⟩, h4⟩ := h
      split at h4
      · simp only [Bool.and_eq_true, decide_eq_true_eq] at h4
        obtain ⟨rfl, rfl⟩ := h4
        exact pe_pop c (sndE a st _ h3 g) h1 h2
      · rename_i b b'
        simp only [Bool.and_eq_true, decide_eq_true_eq] at h4
        exact bm_case g.units1 h4.1.1 (sndE a st _ h3 g) (pa_c c (sndE b st _ h4.2 g) (pa_n c) h4.1.2) h1 h2 h4.1.2
      · cases h4
    · cases h
  | .chain o o' a b d, st, e, h, X, c, Wx, l, g => by
    simp only [chkE] at h
    split at h
    · simp only [Bool.and_eq_true, decide_eq_true_eq] at h
      obtain ⟨⟨⟨⟨⟨h1, h2⟩, h3⟩, h4⟩, h5⟩, h6⟩ := h
      exact pe_chn c h1 h2 (sndE a st _ h4 g) (sndE b st _ h5 g) (sndE d st _ h6 g) h3
    · cases h
  | .bop q es, st, e, h, X, c, Wx, l, g => by
    simp only [chkE] at h
    split at h
    · simp only [Bool.and_eq_true, decide_eq_true_eq] at h
      obtain ⟨rfl, h⟩ := h
      have := sndB es st _ h g q (pos := ‹Pos›)
      exact PEw this fun σ H Q q => by simpa only [TT.evE] using q
    · cases h
  | .not a, st, e, h, X, c, Wx, l, g => by
    simp only [chkE] at h
    split at h
    · exact pe_n c (sndE a st _ h g)
    · cases h
  | .ife t a b, st, e, h, X, c, Wx, l, g => by
    simp only [chkE] at h
    split at h
    · simp only [Bool.and_eq_true] at h
      exact pe_if c (sndT t st _ h.1.1 g) (sndE a st _ h.1.2 g) (sndE b st _ h.2 g)
    · cases h
  | .tup es, st, e, h, X, c, Wx, l, g => by
    simp only [chkE] at h
    split at h
    · simp only [Bool.and_eq_true, decide_eq_true_eq] at h
      exact pe_tp c (sndA es st _ h.2 g) h.1
    · cases h
  | .lst fz es, st, e, h, X, c, Wx, l, g => by
    simp only [chkE] at h
    split at h
    · simp only [Bool.and_eq_true, decide_eq_true_eq] at h
      exact pe_ls c (sndA es st _ h.2 g) h.1
    · cases h
  | .dic fz t, st, e, h, X, c, Wx, l, g => by
    simp only [chkE] at h
    split at h
    · simp only [Bool.or_eq_true, decide_eq_true_eq] at h
      exact pe_dc c h
    · cases h
  | .slc fz a lo hi, st, e, h, X, c, Wx, l, g => by
    simp only [chkE] at h
    split at h
    · simp only [Bool.and_eq_true] at h
      exact pe_slc c (sndE a st _ h.1.1 g) (sndO lo st _ h.1.2 g) (sndO hi st _ h.2 g)
    · cases h
  | .rev fz a, st, e, h, X, c, Wx, l, g => by
    simp only [chkE] at h
    split at h
    · simp only [Bool.and_eq_true] at h
      obtain ⟨h1, h2⟩ := h
      obtain ⟨k, p1, p2, p3, rfl⟩ := isBack_of h1
      exact pe_rev c (sndE a st _ h2 g)
    · cases h
  | .attr a f, st, e, h, X, c, Wx, l, g => by
    simp only [chkE] at h
    split at h
    · simp only [Bool.and_eq_true, decide_eq_true_eq] at h
      exact pe_at g.b.f.nm c (sndE a st _ h.2 g) h.1.1.1 h.1.1.2 h.1.2
    · cases h
  | .call f es, st, e, h, X, c, Wx, l, g => by
    simp only [chkE] at h
    split at h
    · simp only [Bool.and_eq_true, decide_eq_true_eq] at h
      obtain ⟨⟨⟨⟨h1, h2⟩, h3⟩, h4⟩, h5⟩ := h
      obtain ⟨fd, ps, F, B⟩ := g.at_ 0 (by have := g.lv; omega) h4
      obtain ⟨k1, k2⟩ := g.b.f.gl _ _ h3
      exact okCall (l := l) (sndA es st _ h5 g) (allA (c := c) h5) (fun e => by subst e; exact nilA h5) F g.room (g.gl h1) k1 k2 B g.tk (nm_of h2).1
    · cases h
  | .meth a m es, st, e, h, X, c, Wx, l, g => by
    simp only [chkE] at h
    split at h
    · simp only [Bool.and_eq_true, decide_eq_true_eq] at h
      obtain ⟨⟨⟨⟨⟨h1, h2⟩, h3⟩, h4⟩, h5⟩, h6⟩ := h
      have M : ∀ cl n, c.P.meth cl m = some n → MethAt S.N X T l c cl m n := fun cl n e => by
        rw [g.P] at e
        obtain ⟨q1, q2⟩ := g.b.f.meth cl m n e
        obtain ⟨fd, ps, F, B⟩ := g.at_ 0 (by have := g.lv; omega) q1
        exact ⟨_, fd, ps, q2, F, B⟩
      exact okMeth (sndA es st _ h6 g) (allA (c := c) h6) (fun e => by subst e; exact nilA h6) g.b.f.nm h4 M g.room g.tk (sndE a st _ h5 g) h1 h2 h3
    · cases h
  | .new fz cl es, st, e, h, X, c, Wx, l, g => by
    simp only [chkE] at h
    split at h
    · simp only [Bool.and_eq_true, decide_eq_true_eq] at h
      obtain ⟨⟨⟨⟨⟨h1, h2⟩, h3⟩, h4⟩, h5⟩, h6⟩ := h
      split at h6
      · rename_i n hi
        have h6 := of_decide_eq_true h6
        obtain ⟨fd, ps, F, B⟩ := g.at_ 1 (by have := g.lv; omega) h6
        obtain ⟨k1, k2, k3⟩ := g.b.f.cls _ _ h3
        have lv := g.lv
        have ps := sndA es st _ h5 g
        have al := allA (c := c) h5
        rename_i es' _ _ _ _
        cases es' with
        | nil => simp at h4
        | cons a r => exact pe_nw (k := l - 1) c k1 (by rw [g.P]; exact hi) (k3 n hi) F (by rw [show l - 1 + 1 = l by omega]; exact g.room) (g.gl h1) k2 B g.tk ps (nm_of h2).1 al
      · cases h6
    · cases h
  | .fz a, st, e, h, X, c, Wx, l, g => by
    unfold chkE at h
    split at h
    · exact pe_fz c (sndE a st _ h g)
    · cases h
  | .new0 cl, st, e, h, X, c, Wx, l, g => by
    simp only [chkE] at h
    split at h
    · simp only [Bool.and_eq_true, decide_eq_true_eq] at h
      obtain ⟨⟨⟨h1, h2⟩, h3⟩, h4⟩ := h
      obtain ⟨k1, k2, k3⟩ := g.b.f.cls _ _ h3
      exact pe_nw0 c k1 (g.b.f.nw _ _ h3 h4) (g.gl h1) k2 (nm_of h2).1
    · cases h
  | .lc fz own tg it ifs elt, st, e, h, X, c, Wx, l, g => by
    simp only [chkE] at h
    split at h
    · simp only [Bool.and_eq_true] at h
      obtain ⟨⟨⟨⟨⟨⟨⟨h1, h2⟩, h3⟩, h4⟩, h5⟩, h6⟩, h7⟩, h8⟩ := h
      rename_i scope _
      have ok : BlkOk X.N X.env.scope scope (ownOf st own) := by
        rw [g.N, g.sc]; exact blkOk_by h3
      have := pe_lcm (fz := fz) (pos := ‹Pos›) g.calm g.nd (sndI it st _ _ h2 g) ok (t := tg) (fun i hi => by
        rw [own_map]
        exact of_decide_eq_true (List.all_eq_true.mp h5 i hi)) h1 (es := ifs) (x := elt) fun s H C cl fp => by
          have g' := g.blk (of_decide_eq_true h4) s H C cl fp
          exact ⟨g'.tg h6, (sndC (Wx := Wx0) ifs _ _ h7 g').run, sndE elt _ _ h8 g'⟩
      rw [own_map] at this
      exact this
    · cases h
  | .ask a, st, e, h, X, c, Wx, l, g => by
    simp only [chkE] at h
    split at h
    · simp only [Bool.and_eq_true, decide_eq_true_eq] at h
      obtain ⟨⟨⟨⟨⟨⟨h1, h2⟩, h3⟩, h4⟩, h5⟩, h6⟩, h7⟩ := h
      obtain ⟨k1, k2, k3⟩ := g.lam h1
      obtain ⟨l', rfl⟩ : ∃ l', l = l' + 2 := ⟨l - 2, by omega⟩
      obtain ⟨j, rfl⟩ : ∃ j, l' = j + 1 := ⟨l' - 1, by omega⟩
      have ea := noArgs_of h5
      subst ea
      subst h4
      have L := LamX.lamS_by h6
      have kd := L.kind
      exact pe_ask (k := j) (by rw [g.P]) k3 (g.gl h2) k2 g.room (by rw [g.sc]; exact L) (nm_of h3).1 fun A outer s H E f c' hr => sndE a _ _ h7 (g.inl (by omega) kd A outer s H E f c' hr)
    · cases h
theorem sndT : ∀ (x : TT.E) (st : Sp0) (e : Expr), chkT S x st e = true → ∀ {X : Cx} {c : TT.Cxt} {Wx : WX} {l : Nat}, Good S T st X c Wx l → PT X e (cT S.N X.K T Wx (asT (TT.evE c x)))
  | x, st, e, h, X, c, Wx, l, g => by
    unfold chkT at h
    split at h
    · rename_i a
      split at h
      · exact pt_n c (sndT a st _ h g)
      · cases h
    · rename_i q es
      split at h
      · simp only [Bool.and_eq_true, decide_eq_true_eq] at h
        obtain ⟨rfl, h⟩ := h
        have := (sndW es st _ h g q (pos := ‹Pos›)).pt
        exact PTw this fun σ H Q q => by simpa only [asT, TT.evE] using q
      · cases h
    · rename_i o o' a b d
      split at h
      · simp only [Bool.and_eq_true, decide_eq_true_eq] at h
        obtain ⟨⟨⟨⟨⟨h1, h2⟩, h3⟩, h4⟩, h5⟩, h6⟩ := h
        exact pt_chn c h1 h2 (sndE a st _ h4 g) (sndE b st _ h5 g) (sndE d st _ h6 g) h3
      · cases h
    · rename_i fz o a b
      split at h
      · simp only [Bool.and_eq_true, decide_eq_true_eq] at h
        rw [ev_op2]
        exact pt_cp (cmp_snd g.units g.b.f.eqo h.1.1.1) (sndE a st _ h.1.2 g) (sndE b st _ h.2 g) (marks_no h.1.1.2)
      · cases h
    · rename_i fz o a
      split at h
      · simp only [Bool.and_eq_true, decide_eq_true_eq] at h
        exact pt_v (op1_ev (g.call1 h.1.1.1 h.1.1.2 h.1.2 (sndE a st _ h.2 g))) rfl
      · simp only [Bool.and_eq_true, decide_eq_true_eq] at h
        obtain ⟨⟨⟨⟨rfl, h1⟩, h2⟩, h3⟩, h4⟩ := h
        exact pt_v (op1_ev (g.isC h1 h2 h3 (sndE a st _ h4 g))) rfl
      · cases h
    · rename_i i
      split at h
      · simp only [Bool.and_eq_true, decide_eq_true_eq] at h
        exact pt_v (pe_v (by rw [g.N]; exact h.1.1) (by rw [g.sc]; exact vis_of h.1.2) (nm_of h.2).1 (nm_of h.2).2 c) rfl
      · cases h
    · rename_i f es
      split at h
      · simp only [Bool.and_eq_true, decide_eq_true_eq] at h
        obtain ⟨⟨⟨⟨h1, h2⟩, h3⟩, h4⟩, h5⟩ := h
        obtain ⟨fd, ps, F, B⟩ := g.at_ 0 (by have := g.lv; omega) h4
        obtain ⟨k1, k2⟩ := g.b.f.gl _ _ h3
        exact pt_v (okCall (l := l) (sndA es st _ h5 g) (allA (c := c) h5) (fun e => by subst e; exact nilA h5) F g.room (g.gl h1) k1 k2 B g.tk (nm_of h2).1) rfl
      · cases h
    · rename_i a m es
      split at h
      · simp only [Bool.and_eq_true, decide_eq_true_eq] at h
        obtain ⟨⟨⟨⟨⟨h1, h2⟩, h3⟩, h4⟩, h5⟩, h6⟩ := h
        have M : ∀ cl n, c.P.meth cl m = some n → MethAt S.N X T l c cl m n := fun cl n e => by
          rw [g.P] at e
          obtain ⟨q1, q2⟩ := g.b.f.meth cl m n e
          obtain ⟨fd, ps, F, B⟩ := g.at_ 0 (by have := g.lv; omega) q1
          exact ⟨_, fd, ps, q2, F, B⟩
        exact pt_v (okMeth (sndA es st _ h6 g) (allA (c := c) h6) (fun e => by subst e; exact nilA h6) g.b.f.nm h4 M g.room g.tk (sndE a st _ h5 g) h1 h2 h3) rfl
      · cases h
    · cases h
theorem sndW : ∀ (x : TT.Es) (st : Sp0) (es : List Expr), chkW S x st es = true → ∀ {X : Cx} {c : TT.Cxt} {Wx : WX} {l : Nat}, Good S T st X c Wx l → ∀ (q : Bool) {pos : Pos}, PW X (.BoolOp (bopOf q) es pos) (cT S.N X.K T Wx (asT (TT.evB c q x)))
  | .nil, st, es, h, X, c, Wx, l, g, q, pos => by
    unfold chkW at h; cases h
  | .cons a r, st, es, h, X, c, Wx, l, g, q, pos => by
    unfold chkW at h
    split at h
    · rw [Bool.and_eq_true] at h
      obtain ⟨h1, h2⟩ := h
      cases r with
      | nil => exact pw_1 q c (sndT a st _ h1 g)
      | cons _ _ => cases h2
    · rw [Bool.and_eq_true, Bool.and_eq_true] at h
      obtain ⟨⟨h1, h2⟩, h3⟩ := h
      cases r with
      | nil => cases h2
      | cons b r => exact pw_2 q c (sndT a st _ h1 g) (sndW (.cons b r) st _ h3 g q)
    · cases h
theorem sndB : ∀ (x : TT.Es) (st : Sp0) (es : List Expr), chkB S x st es = true → ∀ {X : Cx} {c : TT.Cxt} {Wx : WX} {l : Nat}, Good S T st X c Wx l → ∀ (q : Bool) {pos : Pos}, PE X (.BoolOp (bopOf q) es pos) (cE S.N X.K T Wx (TT.evB c q x))
  | .nil, st, es, h, X, c, Wx, l, g, q, pos => by
    unfold chkB at h; cases h
  | .cons a r, st, es, h, X, c, Wx, l, g, q, pos => by
    unfold chkB at h
    split at h
    · rw [Bool.and_eq_true] at h
      obtain ⟨h1, h2⟩ := h
      cases r with
      | nil => exact pe_bop1 q c (sndE a st _ h1 g)
      | cons _ _ => cases h2
    · rw [Bool.and_eq_true, Bool.and_eq_true] at h
      obtain ⟨⟨h1, h2⟩, h3⟩ := h
      cases r with
      | nil => cases h2
      | cons b r => exact pe_bop2 q c (sndE a st _ h1 g) (sndB (.cons b r) st _ h3 g q)
    · cases h
theorem sndA : ∀ (x : TT.Es) (st : Sp0) (es : List Expr), chkA S x st es = true → ∀ {X : Cx} {c : TT.Cxt} {Wx : WX} {l : Nat}, Good S T st X c Wx l → PA X es (cA S.N X.K T Wx (TT.evEs c x))
  | .nil, st, es, h, X, c, Wx, l, g => by
    unfold chkA at h
    rw [List.isEmpty_iff] at h
    subst h
    exact pa_n c
  | .cons a r, st, es, h, X, c, Wx, l, g => by
    unfold chkA at h
    split at h
    · rw [Bool.and_eq_true, Bool.and_eq_true] at h
      exact pa_c c (sndE a st _ h.1.2 g) (sndA r st _ h.2 g) h.1.1
    · cases h
theorem sndO : ∀ (x : TT.Es) (st : Sp0) (e : Option Expr), chkO S x st e = true → ∀ {X : Cx} {c : TT.Cxt} {Wx : WX} {l : Nat}, Good S T st X c Wx l → PO X e (cO S.N X.K T Wx (TT.evO c x))
  | .nil, st, e, h, X, c, Wx, l, g => by
    unfold chkO at h
    cases e with
    | none => exact po_n c
    | some _ => cases h
  | .cons a r, st, e, h, X, c, Wx, l, g => by
    unfold chkO at h
    split at h
    · exact po_s c (sndE a st _ h g)
    · cases h
theorem sndC : ∀ (x : TT.Es) (st : Sp0) (es : List Expr), chkC S x st es = true → ∀ {X : Cx} {c : TT.Cxt} {Wx : WX} {l : Nat}, Good S T st X c Wx0 l → Tests S.N X T c es x
  | .nil, st, es, h, X, c, Wx, l, g => by
    unfold chkC at h
    rw [List.isEmpty_iff] at h
    subst h
    exact .nil
  | .cons a r, st, es, h, X, c, Wx, l, g => by
    unfold chkC at h
    split at h
    · rw [Bool.and_eq_true] at h
      obtain ⟨h1, h2⟩ := h
      cases r with
      | nil => exact .one (sndT a st _ h1 g)
      | cons _ _ => cases h2
    · cases h
theorem sndI : ∀ (x : TT.It) (st : Sp0) (tg e : Expr), chkI S x st tg e = true → ∀ {X : Cx} {c : TT.Cxt} {Wx : WX} {l : Nat}, Good S T st X c Wx l → PI X tg e (cI S.N X.K T Wx (TT.evI c x))
  | .seq a, st, tg, e, h, X, c, Wx, l, g => pi_s c (sndE a st e (by unfold chkI at h; exact h) g)
  | .txt a, st, tg, e, h, X, c, Wx, l, g => pi_txt c (sndE a st e (by unfold chkI at h; exact h) g)
  | .rng1 a, st, tg, e, h, X, c, Wx, l, g => by
    unfold chkI at h
    split at h
    · simp only [Bool.and_eq_true, decide_eq_true_eq] at h
      obtain ⟨⟨⟨rfl, h1⟩, h2⟩, h3⟩ := h
      exact pi_r1 (g.blt2 h1) c (sndE a st _ h3 g) h2
    · cases h
  | .rng2 a b, st, tg, e, h, X, c, Wx, l, g => by
    unfold chkI at h
    split at h
    · simp only [Bool.and_eq_true, decide_eq_true_eq] at h
      obtain ⟨⟨⟨⟨⟨rfl, h1⟩, h2⟩, h3⟩, h4⟩, h5⟩ := h
      exact pi_r2 (g.blt2 h1) c (sndE a st _ h4 g) (sndE b st _ h5 g) h2 h3
    · cases h
  | .enm a, st, tg, e, h, X, c, Wx, l, g => by
    unfold chkI at h
    split at h
    · simp only [Bool.and_eq_true, decide_eq_true_eq] at h
      obtain ⟨⟨⟨⟨rfl, h1⟩, h2⟩, h3⟩, h4⟩ := h
      split at h3
      · exact pi_en (g.blt2 h1) c (sndE a st _ h4 g) h2
      · cases h3
    · cases h
  | .revs a, st, tg, e, h, X, c, Wx, l, g => by
    unfold chkI at h
    split at h
    · simp only [Bool.and_eq_true, decide_eq_true_eq] at h
      obtain ⟨⟨⟨rfl, h1⟩, h2⟩, h3⟩ := h
      exact pi_rv (g.blt2 h1) c (sndE a st _ h3 g) h2
    · cases h
  | .zip _ _, st, tg, e, h, X, c, Wx, l, g => by
    unfold chkI at h; cases h
end
end TS

set_option maxRecDepth 100000
/-! The Bool for statements. -/
namespace TS
open PySem PySem.Spec PyProof.Rows L2
def noDC : Expr → Bool
  | .SetComp _ _ _ _ => false
  | .DictComp _ _ _ _ _ => false
  | _ => true
/-- is the value used where the comprehension is -/
def swapV (sc : Scope) (v tg : Expr) : Bool := match v with
  | .ListComp _ _ scope _ => (match tg with
    | .Name t pos => (sc.names.lookup t == some .local) && pos.line == v.pos.line && !(scope.names.any fun (n, k) => n == t && (k == .local || k == .cell))
    | _ => false)
  | _ => false
theorem swapV_ok {env : Env} {v tg : Expr} {l : Nat} (hk : env.scope.kind = .function) (hd : noDC v = true) : swapsWith v (some tg) l env = pure (swapV env.scope v tg) := by
  have hb : env.blockKind = .function := by unfold Env.blockKind; rw [hk]; rfl
  cases v <;> first | (cases hd; done) | (unfold swapsWith swapV; rfl) | skip
  rename_i elt gs scope pos
  cases tg <;> first | rfl | skip
  rename_i t p
  unfold swapsWith swapV
  simp only [hb]
  have : env.kindOf t = env.scope.names.lookup t := rfl
  rw [this]
  rfl
theorem swapV_sub {sc : Scope} {v o i : Expr} {p : Pos} : swapV sc v (.Subscript o i p) = false := by
  unfold swapV
  cases v <;> rfl
theorem swapV_att {sc : Scope} {v o : Expr} {m : Str} {p : Pos} : swapV sc v (.Attribute o m p) = false := by
  unfold swapV
  cases v <;> rfl
/-- two or three plain names, stored without a tuple -/
def lclB (sc : Scope) (line : Nat) : Expr → Bool
  | .Name x p => (sc.names.lookup x == some .local) && p.line == line
  | _ => false
def parB (st : Sp0) : List Nat → List Expr → List Expr → Bool
  | [i, j], [.Name x px, .Name y py], [a, b] => decide (i ≠ j) && decide (st.N[i]? = some x) && decide (st.N[j]? = some y) && lclB st.sc px.line (.Name x px) && lclB st.sc px.line (.Name y py) && !(x == y) && noStar a && noStar b && !(foldedForSure 8 a && foldedForSure 8 b) && !(constantsAlone 8 a && constantsAlone 8 b)
  | [i, j, l], [.Name x px, .Name y py, .Name z pz], [a, b, d] => decide (i ≠ j) && decide (i ≠ l) && decide (j ≠ l) && decide (st.N[i]? = some x) && decide (st.N[j]? = some y) && decide (st.N[l]? = some z) && lclB st.sc px.line (.Name x px) && lclB st.sc px.line (.Name y py) && lclB st.sc px.line (.Name z pz) &&
      !(x == y) && !(x == z) && !(y == z) && noStar a && noStar b && noStar d && !(foldedForSure 8 a && foldedForSure 8 b && foldedForSure 8 d) && !(constantsAlone 8 a && constantsAlone 8 b && constantsAlone 8 d)
  | _, _, _ => false
/-- a tuple that is built, then taken apart -/
def foldB : Expr → Bool
  | .Tuple vs _ _ => (vs.all fun
      | .Starred .. => false
      | _ => true) && vs.all (foldedForSure 8)
  | _ => true
mutual
def chkS (S : Sig) : TT.S → Sp0 → Stmt → Bool
  | .asg t x, st, s => match s with
    | .Assign [tg] v _ => noDC v && tgB st t tg && chkE S x st v && (match t with
      | .nm _ => true
      | .tp _ => noTup v || cellT st.sc tg)
    | _ => false
  | .par is es, st, s => match s with
    | .Assign [.Tuple ts _ _] (.Tuple vs _ _) _ => parB st is ts vs && chkA S es st vs
    | _ => false
  | .sub o i v, st, s => match s with
    | .Assign [.Subscript o' i' _] v' _ => noSlice i' && noComp v' && noTup v' && chkE S o st o' && chkE S i st i' && chkE S v st v'
    | _ => false
  | .dput o i v, st, s => match s with
    | .Assign [.Subscript o' i' _] v' _ => noDC v' && chkE S o st o' && chkE S i st i' && chkE S v st v'
    | _ => false
  | .fld o f v, st, s => match s with
    | .Assign [.Attribute o' m _] v' _ => noDC v' && decide (f < S.N.as.length) && decide (m = S.N.an f) && chkE S o st o' && chkE S v st v'
    | _ => false
  | .ex a, st, s => match s with
    | .Expr v _ => noComp v && chkE S a st v
    | _ => false
  | .ret a, st, s => match s with
    | .Return (some v) _ => chkE S a st v
    | _ => false
  | .retN, _, s => match s with
    | .Return none _ => true
    | _ => false
  | .ite t a b, st, s => match s with
    | .If t' a' b' _ => chkT S t st t' && chkSs S a st a' && chkSs S b st b'
    | _ => false
  | .for t it _ body, st, s => match s with
    | .For tg iter body' [] _ => noSet iter && tgB st t tg && chkI S it st tg iter && chkSs S body st body'
    | _ => false
  | .whl _ t _ body, st, s => match s with
    | .While t' body' [] _ => chkT S t st t' && chkSs S body st body'
    | _ => false
  | .raise k, st, s => match s with
    | .Raise (some (.Call (.Name x _) [.Constant (.str _) _ _] [] _)) none _ => decide (S.N.es[k]? = some x) && glB st.sc x && nm1 x
    | _ => false
  | .try1 _ _ _, _, _ => false
  | .pass, _, s => match s with
    | .Pass _ => true
    | _ => false
  | .brk, _, s => match s with
    | .Break _ => true
    | _ => false
  | .cnt, _, s => match s with
    | .Continue _ => true
    | _ => false
  | .gfrz _, _, _ => false
  | .gdrop _, _, _ => false
def chkSs (S : Sig) : TT.Ss → Sp0 → List Stmt → Bool
  | .nil, _, ss => ss.isEmpty
  | .cons a r, st, ss => match a with
    | .gfrz _ => chkSs S r st ss
    | .gdrop _ => chkSs S r st ss
    | a => match ss with
      | s :: rest => chkS S a st s && chkSs S r st rest
      | [] => false
end
structure GoodS (S : Sig) (T : List (Addr × Str)) (st : Sp0) (X : Cx) (c : TT.Cxt) (Wx : WX) (l : Nat) : Prop where
  g : Good S T st X c Wx l
  po : PassesOwn (model X.prog X.w) X.A X.env X.xe
theorem stores_par {env : Env} {st : Sp0} {is : List Nat} {ts vs : List Expr} {k1 k2 : Nat} {p1 p2 : Pos} (hk : env.scope.kind = .function) (hs : env.scope = st.sc) (h : parB st is ts vs = true) :
    (∃ i j x y px py a b, is = [i, j] ∧ ts = [.Name x px, .Name y py] ∧ vs = [a, b] ∧ i ≠ j ∧ st.N[i]? = some x ∧ st.N[j]? = some y ∧ env.scope.names.lookup x = some .local ∧ env.scope.names.lookup y = some .local ∧ swappedStores [.Tuple ts k1 p1] (.Tuple vs k2 p2) env = pure (some [x, y])) ∨
    (∃ i j l x y z px py pz a b d, is = [i, j, l] ∧ ts = [.Name x px, .Name y py, .Name z pz] ∧ vs = [a, b, d] ∧ i ≠ j ∧ i ≠ l ∧ j ≠ l ∧ st.N[i]? = some x ∧ st.N[j]? = some y ∧ st.N[l]? = some z ∧ env.scope.names.lookup x = some .local ∧ env.scope.names.lookup y = some .local ∧ env.scope.names.lookup z = some .local ∧ swappedStores [.Tuple ts k1 p1] (.Tuple vs k2 p2) env = pure (some [x, y, z])) := by
  have hb : env.blockKind = .function := by unfold Env.blockKind; rw [hk]; rfl
  have hko : ∀ t, env.kindOf t = env.scope.names.lookup t := fun _ => rfl
  unfold parB at h
  split at h
  · rename_i i j x px y py a b
    simp only [Bool.and_eq_true, decide_eq_true_eq, lclB, beq_iff_eq, Bool.not_eq_true'] at h
    obtain ⟨⟨⟨⟨⟨⟨⟨⟨⟨h1, h2⟩, h3⟩, h4⟩, h5⟩, h6⟩, h7⟩, h8⟩, h9⟩, h10⟩ := h
    left
    refine ⟨i, j, x, y, px, py, a, b, rfl, rfl, rfl, h1, h2, h3, by rw [hs]; exact h4.1, by rw [hs]; exact h5.1, ?_⟩
    unfold swappedStores
    simp only [List.length_cons, List.length_nil, hb, List.any_cons, List.any_nil, List.filterMap_cons, List.filterMap_nil, hko, hs, h4.1, h5.1, Expr.pos, List.head?_cons, Option.map_some, Option.getD_some, h5.2, List.all_cons, List.all_nil, Bool.and_true, h9, h10]
    have h6' : (y == x) = false := beq_eq_false_iff_ne.mpr fun e => (beq_eq_false_iff_ne.mp h6) e.symm
    simp [List.eraseDups_cons, h6, h6']
    intro h
    rcases h with h | h
    · revert h h7; cases a <;> simp [noStar]
    · revert h h8; cases b <;> simp [noStar]
  · rename_i i j l x px y py z pz a b d
    simp only [Bool.and_eq_true, decide_eq_true_eq, lclB, beq_iff_eq, Bool.not_eq_true'] at h
    obtain ⟨⟨⟨⟨⟨⟨⟨⟨⟨⟨⟨⟨⟨⟨⟨⟨h1, h2⟩, h3⟩, h4⟩, h5⟩, h6⟩, h7⟩, h8⟩, h9⟩, k1⟩, k2⟩, k3⟩, k4⟩, k5⟩, k6⟩, k7⟩, k8⟩ := h
    right
    refine ⟨i, j, l, x, y, z, px, py, pz, a, b, d, rfl, rfl, rfl, h1, h2, h3, h4, h5, h6, by rw [hs]; exact h7.1, by rw [hs]; exact h8.1, by rw [hs]; exact h9.1, ?_⟩
    unfold swappedStores
    simp only [List.length_cons, List.length_nil, hb, List.any_cons, List.any_nil, List.filterMap_cons, List.filterMap_nil, hko, hs, h7.1, h8.1, h9.1, Expr.pos, List.head?_cons, Option.map_some, Option.getD_some, h8.2, h9.2, List.all_cons, List.all_nil, Bool.and_true, k7, k8, ← Bool.and_assoc]
    have e1 : (y == x) = false := beq_eq_false_iff_ne.mpr fun e => (beq_eq_false_iff_ne.mp k1) e.symm
    have e2 : (z == x) = false := beq_eq_false_iff_ne.mpr fun e => (beq_eq_false_iff_ne.mp k2) e.symm
    have e3 : (z == y) = false := beq_eq_false_iff_ne.mpr fun e => (beq_eq_false_iff_ne.mp k3) e.symm
    simp [List.eraseDups_cons, e1, e2, e3]
    intro h
    rcases h with h | h | h
    · revert h k4; cases a <;> simp [noStar]
    · revert h k5; cases b <;> simp [noStar]
    · revert h k6; cases d <;> simp [noStar]
  · cases h
theorem assign_sub {o i : Expr} {p : Pos} {env : Env} (h : noSlice i = true) (u : Value) : assign (.Subscript o i p) env u = (do
      let ov ← holding [u] (eval o env)
      let iv ← holding [u, ov] (eval i env)
      standAt p
      holding [u, ov, iv] (setItem ov iv u)
      release [u, ov, iv] []) := by
  cases i <;> first | rfl | cases h
section
variable {S : Sig} {T : List (Addr × Str)}
theorem tgB_tp {st : Sp0} {is : List Nat} {e : Expr} (h : tgB st (.tp is) e = true) : ∃ es k p, e = .Tuple es k p ∧ tgsB st is es = true := by
  cases e <;> first | (simp [tgB] at h; done) | exact ⟨_, _, _, rfl, by simpa [tgB] using h⟩
theorem lc_parts {x : TT.E} {st : Sp0} {elt' : Expr} {gs : List Comprehension} {scope : Scope} {p : Pos} (h : chkE S x st (.ListComp elt' gs scope p) = true) : ∃ fz own tg it ifs elt tg' iter' ifs', x = .lc fz own tg it ifs elt ∧ gs = [⟨tg', iter', ifs', 0⟩] ∧
    noSet iter' = true ∧ chkI S it st tg' iter' = true ∧ blkC st.N st.sc scope (ownOf st own) = true ∧ scope.kind = .function ∧ ((tgs tg).all (fun i => decide (i ∈ own))) = true ∧ tgB (st.blk scope) tg tg' = true ∧ chkC S ifs (st.blk scope) ifs' = true ∧ chkE S elt (st.blk scope) elt' = true := by
  have hv : ∀ o, vRev o (.ListComp elt' gs scope p) = none := fun o => by cases o <;> rfl
  cases x with
  | op fz o es =>
    unfold chkE at h
    cases es with
    | nil => cases h
    | cons a r =>
      cases r with
      | nil =>
        simp only [hv] at h
        cases h
      | cons b r2 => cases r2 <;> cases h
  | lc fz own tg it ifs elt =>
    unfold chkE at h
    split at h
    · rename_i elt'' tg' iter' ifs' scope' pos' e
      cases e
      simp only [Bool.and_eq_true, decide_eq_true_eq] at h
      obtain ⟨⟨⟨⟨⟨⟨⟨h1, h2⟩, h3⟩, h4⟩, h5⟩, h6⟩, h7⟩, h8⟩ := h
      exact ⟨_, _, _, _, _, _, _, _, _, rfl, rfl, h1, h2, h3, h4, h5, h6, h7, h8⟩
    · cases h
  | _ => unfold chkE at h; first | (cases h; done) | (split at h <;> cases h)
theorem asg_case {t : TT.Tg} {x : TT.E} {st : Sp0} {tg v : Expr} {pos : Pos} {X : Cx} {c : TT.Cxt} {Wx : WX} {l : Nat} (g : Good S T st X c Wx l) (h1 : noDC v = true) (h2 : tgB st t tg = true) (h3 : chkE S x st v = true) (h4 : ∀ is, t = .tp is → (noTup v || cellT st.sc tg) = true) :
    PS X (.Assign [tg] v pos) (cS S.N X.K T Wx fun n => TT.evS c n (.asg t x)) := by
  have hk : X.env.scope.kind = .function := by rw [g.sc]; exact g.kind
  have he := sndE x st v h3 g
  cases t with
  | tp is =>
    obtain ⟨es, k, p, rfl, h2⟩ := tgB_tp h2
    refine ss_asgT g.nd g.calm he (g.tgs h2) ?_ (by
      rcases Bool.or_eq_true_iff.mp (h4 is rfl) with q | q
      · exact stores_no q
      · exact stores_cell (by rw [g.sc]; exact q))
    rw [swapV_ok hk h1]
    unfold swapV
    cases v <;> rfl
  | nm i =>
    unfold tgB at h2
    obtain ⟨y, p, rfl, ht⟩ := g.tg1 h2
    cases hs : swapV X.env.scope v (.Name y p) with
    | false => exact ss_asgN g.nd he ht (by rw [swapV_ok hk h1, hs])
    | true =>
      have hs' := swapV_ok (env := X.env) (tg := .Name y p) (l := pos.line) hk h1
      rw [hs] at hs'
      unfold swapV at hs
      cases v <;> first | (cases hs; done) | skip
      rename_i elt gs scope lpos
      simp only [Bool.and_eq_true, beq_iff_eq] at hs
      obtain ⟨fz, own, tg', it, ifs, elt', tg'', iter, ifs', rfl, rfl, k1, k2, k3, k4, k5, k6, k7, k8⟩ := lc_parts h3
      have ok : BlkOk X.N X.env.scope scope (ownOf st own) := by
        rw [g.N, g.sc]; exact blkOk_by k3
      have := ss_asgLc (fz := fz) (pos := pos) (py := p) g.calm g.nd ht hs.1.1 hs' (sndI it st _ _ k2 g) ok (t := tg') (fun i hi => by
        rw [own_map]
        exact of_decide_eq_true (List.all_eq_true.mp k5 i hi)) k1 (es := ifs) (x := elt') fun s H C cl fp => by
          have g' := g.blk k4 s H C cl fp
          exact ⟨g'.tg k6, (sndC (Wx := Wx0) ifs _ _ k7 g').run, sndE elt' _ _ k8 g'⟩
      rw [own_map] at this
      exact this
theorem raise_case {k : Nat} {x m : Str} {j : Nat} {p p2 p3 pos : Pos} {st : Sp0} {X : Cx} {c : TT.Cxt} {Wx : WX} {l : Nat} (g : Good S T st X c Wx l) (h1 : S.N.es[k]? = some x) (h2 : glB st.sc x = true) (h3 : nm1 x = true) :
    PS X (.Raise (some (.Call (.Name x p) [.Constant (.str m) j p2] [] p3)) none pos) (cS S.N X.K T Wx fun n => TT.evS c n (.raise k)) := by
  obtain ⟨k1, k2, k3, k4, k5⟩ := g.b.f.exc k x h1
  exact ss_raise g.calm g.tk PySem.F.excBase_ValueError k2 k1 k3 (raises_own k4 k5) (g.gl h2) (nm_of h3).1
mutual
theorem sndS : ∀ (x : TT.S) (st : Sp0) (s : Stmt), chkS S x st s = true → ∀ {X : Cx} {c : TT.Cxt} {Wx : WX} {l : Nat}, GoodS S T st X c Wx l → PS X s (cS S.N X.K T Wx fun n => TT.evS c n x)
  | .asg t x, st, s, h, X, c, Wx, l, g => by
    unfold chkS at h
    split at h
    · simp only [Bool.and_eq_true] at h
      refine asg_case g.g h.1.1.1 h.1.1.2 h.1.2 fun is e => ?_
      subst e
      exact h.2
    · cases h
  | .par is es, st, s, h, X, c, Wx, l, g => by
    unfold chkS at h
    split at h
    · rename_i ts k1 e1 vs k2 e2 e3
      simp only [Bool.and_eq_true] at h
      obtain ⟨h1, h2⟩ := h
      have hk : X.env.scope.kind = .function := by rw [g.g.sc]; exact g.g.kind
      have pa := sndA es st _ h2 g.g
      rcases stores_par (k1 := k1) (p1 := e1) (k2 := k2) (p2 := e2) hk g.g.sc h1 with ⟨i, j, x, y, px, py, a, b, rfl, rfl, rfl, q1, q2, q3, q4, q5, q6⟩ | ⟨i, j, l, x, y, z, px, py, pz, a, b, d, rfl, rfl, rfl, q1, q2, q3, q4, q5, q6, q7, q8, q9, q10⟩
      · exact ss_par2 g.g.calm g.g.nd (by rw [g.g.N]; exact q2) (by rw [g.g.N]; exact q3) q1 q4 q5 pa q6
      · exact ss_par3 g.g.calm g.g.nd (by rw [g.g.N]; exact q4) (by rw [g.g.N]; exact q5) (by rw [g.g.N]; exact q6) q1 q2 q3 q7 q8 q9 pa q10
    · cases h
  | .sub o i v, st, s, h, X, c, Wx, l, g => by
    unfold chkS at h
    split at h
    · simp only [Bool.and_eq_true] at h
      obtain ⟨⟨⟨⟨⟨h1, h2⟩, h3⟩, h4⟩, h5⟩, h6⟩ := h
      exact ss_sub (sndE o st _ h4 g.g) (sndE i st _ h5 g.g) (sndE v st _ h6 g.g) h1 h2 h3 (assign_sub h1)
    · cases h
  | .dput o i v, st, s, h, X, c, Wx, l, g => by
    unfold chkS at h
    split at h
    · simp only [Bool.and_eq_true] at h
      obtain ⟨⟨⟨h1, h2⟩, h3⟩, h4⟩ := h
      have hk : X.env.scope.kind = .function := by rw [g.g.sc]; exact g.g.kind
      refine ss_dput g.g.units (sndE o st _ h2 g.g) (sndE i st _ h3 g.g) (sndE v st _ h4 g.g) ?_
      rw [swapV_ok hk h1, swapV_sub]
    · cases h
  | .fld o f v, st, s, h, X, c, Wx, l, g => by
    unfold chkS at h
    split at h
    · simp only [Bool.and_eq_true, decide_eq_true_eq] at h
      obtain ⟨⟨⟨⟨h1, h2⟩, h3⟩, h4⟩, h5⟩ := h
      have hk : X.env.scope.kind = .function := by rw [g.g.sc]; exact g.g.kind
      refine ss_fld g.g.b.f.nm (sndE o st _ h4 g.g) (sndE v st _ h5 g.g) h2 h3 ?_
      rw [swapV_ok hk h1, swapV_att]
    · cases h
  | .ex a, st, s, h, X, c, Wx, l, g => by
    unfold chkS at h
    split at h
    · rw [Bool.and_eq_true] at h
      exact ss_ex (sndE a st _ h.2 g.g) h.1
    · cases h
  | .ret a, st, s, h, X, c, Wx, l, g => by
    unfold chkS at h
    split at h
    · exact ss_ret (sndE a st _ h g.g)
    · cases h
  | .retN, st, s, h, X, c, Wx, l, g => by
    unfold chkS at h
    split at h
    · exact ss_retN
    · cases h
  | .ite t a b, st, s, h, X, c, Wx, l, g => by
    unfold chkS at h
    split at h
    · rw [Bool.and_eq_true, Bool.and_eq_true] at h
      exact ss_ite (sndT t st _ h.1.1 g.g) (sndSs a st _ h.1.2 g) (sndSs b st _ h.2 g)
    · cases h
  | .for t it kill body, st, s, h, X, c, Wx, l, g => by
    unfold chkS at h
    split at h
    · rw [Bool.and_eq_true, Bool.and_eq_true, Bool.and_eq_true] at h
      exact ss_for g.po g.g.calm (sndI it st _ _ h.1.2 g.g) (g.g.tg h.1.1.2) h.1.1.1 (sndSs body st _ h.2 g)
    · cases h
  | .whl m t kill body, st, s, h, X, c, Wx, l, g => by
    unfold chkS at h
    split at h
    · rw [Bool.and_eq_true] at h
      exact ss_whl g.po (sndT t st _ h.1 g.g) (sndSs body st _ h.2 g)
    · cases h
  | .raise k, st, s, h, X, c, Wx, l, g => by
    unfold chkS at h
    split at h
    · simp only [Bool.and_eq_true, decide_eq_true_eq] at h
      exact raise_case g.g h.1.1 h.1.2 h.2
    · cases h
  | .try1 _ _ _, st, s, h, X, c, Wx, l, g => by
    unfold chkS at h; cases h
  | .pass, st, s, h, X, c, Wx, l, g => by
    unfold chkS at h
    split at h
    · exact ss_pass
    · cases h
  | .brk, st, s, h, X, c, Wx, l, g => by
    unfold chkS at h
    split at h
    · exact ss_brk
    · cases h
  | .cnt, st, s, h, X, c, Wx, l, g => by
    unfold chkS at h
    split at h
    · exact ss_cnt
    · cases h
  | .gfrz _, st, s, h, X, c, Wx, l, g => by
    unfold chkS at h; cases h
  | .gdrop _, st, s, h, X, c, Wx, l, g => by
    unfold chkS at h; cases h
theorem sndSs : ∀ (x : TT.Ss) (st : Sp0) (ss : List Stmt), chkSs S x st ss = true → ∀ {X : Cx} {c : TT.Cxt} {Wx : WX} {l : Nat}, GoodS S T st X c Wx l → PSs X ss (cS S.N X.K T Wx fun n => TT.evSs c n x)
  | .nil, st, ss, h, X, c, Wx, l, g => by
    unfold chkSs at h
    rw [List.isEmpty_iff] at h
    subst h
    exact sq_nil
  | .cons a r, st, ss, h, X, c, Wx, l, g => by
    unfold chkSs at h
    split at h
    · exact sq_frz (sndSs r st _ h g)
    · exact sq_drop (sndSs r st _ h g)
    · split at h
      · rw [Bool.and_eq_true] at h
        exact sq_cons (sndS a st _ h.1 g) (sndSs r st _ h.2 g)
      · cases h
end
end
end TS

set_option maxRecDepth 100000
/-! A def: it does what the small language says; all defs, at all depths. -/
namespace TS
open PySem PySem.Spec PyProof.Rows L2
section
variable {N : Nm} {K : PySem.W.Frag} {T : List (Addr × Str)} {L L' : Loc} {H H' : Hp} {s s' : Sto}
theorem take_pre (p : Pst L L' H H') : L'.take L.length = L := by
  obtain ⟨X, rfl⟩ := p.pre
  simp
theorem pst_back (p : Pst L L' H H') : Pst L L H H' := p.less ⟨[], by simp⟩ fun a h => by
  obtain ⟨X, rfl⟩ := p.pre
  exact List.mem_append_left _ h
theorem rels_back (p : Pst L L' H H') (z : RelS N K T L' H' s') (hl : L.length = n) : RelS N K T L H' (s'.take n) := by
  subst hl
  have e := take_pre p
  refine z.sub ?_ (fun l a h => ?_) fun l m h d => ?_
  · rw [List.length_take, ← z.len]
    obtain ⟨X, rfl⟩ := p.pre
    simp
  · obtain ⟨X, rfl⟩ := p.pre
    rw [List.getElem?_append_left (List.getElem?_eq_some_iff.mp h).1]
    exact h
  · rw [List.getElem?_take] at h
    split at h
    · rename_i hl
      refine ⟨h, fun a q => ?_⟩
      obtain ⟨X, rfl⟩ := p.pre
      rw [List.getElem?_append_left hl] at q
      exact q
    · cases h
theorem repD_back (p : Pst L L' H H') {v : L2.V} {d : TT.D} (r : RepD N K L' H' v d) : RepD N K L H' v d := by
  refine r.keeps ⟨fun a o n _ _ q => n ?_, fun a o h _ _ => h⟩
  obtain ⟨X, rfl⟩ := p.pre
  exact List.mem_append_left _ q
/-- the way back from a def -/
theorem leave_out {Q : VK} {er : Nat → Hp → Prop} {w : W} {v : L2.V} {kp : Bool} (p : Pst L L' H H') (z : RelS N K T L' H' s') (rv : RepW N K L' H' v w) (hl : L.length = n) (o : Out N K T L H (okW N K Q) er (TT.leave kp n w s')) : Q v H' := by
  have pb := pst_back p
  have zb := rels_back (n := n) p z hl
  cases w with
  | d x =>
    simp only [TT.leave] at o
    exact o L H' pb zb v (repD_back p rv)
  | loc l =>
    simp only [TT.leave] at o
    obtain ⟨a, ea, rfl⟩ := rv
    split at o
    · rename_i hlt
      refine o L H' pb zb (.ref a) ⟨a, ?_, rfl⟩
      rw [← take_pre p, List.getElem?_take, if_pos (by rw [hl]; exact hlt)]
      exact ea
    · rename_i hge
      have nin : some a ∉ L := fun q => by
        obtain ⟨j, ej⟩ := List.mem_iff_getElem?.mp q
        have hj := (List.getElem?_eq_some_iff.mp ej).1
        have ej' : L'[j]? = some (some a) := by
          obtain ⟨X, rfl⟩ := p.pre
          rw [List.getElem?_append_left hj]; exact ej
        have := z.uniq l j a ea ej'
        omega
      have fin : ∀ (m : M) (d : TT.D), s'[l]? = some m → m ≠ .dead → frzM m = some d → RepD N K L H' (.ref a) d := fun m d hm nd hd => by
        obtain ⟨b, eb, mb, rm⟩ := z.loc hm nd
        rw [ea] at eb; cases eb
        have k : Keeps L' L H' H' := ⟨fun a o n _ _ q => n (by obtain ⟨X, rfl⟩ := p.pre; exact List.mem_append_left _ q), fun a o h _ _ => h⟩
        exact (rm.keeps k rfl).frz nin hd
      have fin2 : ∀ (m : M), s'[l]? = some m → m ≠ .dead → Out N K T L H (okW N K Q) er (.ok (.loc n) (s'.take n ++ [m])) → Q (.ref a) H' := fun m hm nd o => by
        obtain ⟨b, eb, mb, rm⟩ := z.loc hm nd
        rw [ea] at eb; cases eb
        have sub : ∀ c, some c ∈ L ++ [some a] → some c ∈ L' := fun c q => by
          rcases List.mem_append.mp q with q | q
          · obtain ⟨X, rfl⟩ := p.pre
            exact List.mem_append_left _ q
          · rw [List.mem_singleton] at q
            cases q
            exact mb
        have k : Keeps L' (L ++ [some a]) H' H' := ⟨fun c o n _ _ q => n (sub c q), fun a o h _ _ => h⟩
        have pa : Pst L (L ++ [some a]) H H' := p.less ⟨[some a], rfl⟩ sub
        have ln : (s'.take n).length = n := by rw [← zb.len, hl]
        have za : RelS N K T (L ++ [some a]) H' (s'.take n ++ [m]) := by
          refine ⟨by rw [List.length_append, List.length_append, zb.len]; rfl, fun i j c h1 h2 => ?_, fun c q => z.there c (sub c q), fun i m' h d => ?_, z.tabs⟩
          · have at' : ∀ {i : Nat} {c : Addr}, (L ++ [some a])[i]? = some (some c) → (i < L.length ∧ L[i]? = some (some c)) ∨ (i = L.length ∧ c = a) := fun {i c} h => by
              rw [List.getElem?_append] at h
              split at h
              · rename_i q; exact .inl ⟨q, h⟩
              · rename_i q
                have h3 := (List.getElem?_eq_some_iff.mp h).1
                simp at h3
                have : i = L.length := by omega
                subst this
                simp at h
                exact .inr ⟨rfl, h.symm⟩
            rcases at' h1 with ⟨q1, q2⟩ | ⟨q1, q2⟩
            · rcases at' h2 with ⟨q3, q4⟩ | ⟨q3, q4⟩
              · exact zb.uniq i j c q2 q4
              · subst q4; exact absurd (List.mem_of_getElem? q2) nin
            · rcases at' h2 with ⟨q3, q4⟩ | ⟨q3, q4⟩
              · subst q2; exact absurd (List.mem_of_getElem? q4) nin
              · omega
          · rw [List.getElem?_append] at h
            split at h
            · rename_i q
              obtain ⟨c, e1, e2⟩ := zb.at_ i m' h d
              have e3 : L'[i]? = some (some c) := by
                obtain ⟨X, rfl⟩ := p.pre
                rw [List.getElem?_append_left (List.getElem?_eq_some_iff.mp e1).1]; exact e1
              have hs : s'[i]? = some m' := by
                rw [List.getElem?_take] at h
                split at h
                · exact h
                · cases h
              obtain ⟨c', e4, e5⟩ := z.at_ i m' hs d
              rw [e3] at e4; cases e4
              refine ⟨c, ?_, e5.keeps k rfl⟩
              rw [List.getElem?_append_left (List.getElem?_eq_some_iff.mp e1).1]; exact e1
            · rename_i q
              have h3 := (List.getElem?_eq_some_iff.mp h).1
              simp at h3
              have : i = (s'.take n).length := by
                rw [List.length_take]
                rw [List.length_take] at q
                omega
              subst this
              simp at h
              subst h
              refine ⟨a, ?_, rm.keeps k rfl⟩
              rw [← zb.len]
              simp
        exact o _ H' pa za (.ref a) ⟨a, by rw [← hl]; simp, rfl⟩
      cases kp with
      | false =>
        simp only [Bool.false_eq_true, if_false] at o
        split at o
        · rename_i ds e1
          exact o L H' pb zb (.ref a) (fin _ _ e1 (fun q => nomatch q) rfl)
        · rename_i t ks vs e1
          exact o L H' pb zb (.ref a) (fin _ _ e1 (fun q => nomatch q) rfl)
        · rename_i c ks vs e1
          exact o L H' pb zb (.ref a) (fin _ _ e1 (fun q => nomatch q) rfl)
        · exact False.elim o
      | true =>
        simp only [if_true] at o
        split at o
        · rename_i ds e1
          exact fin2 _ e1 (fun q => nomatch q) o
        · rename_i t ks vs e1
          exact fin2 _ e1 (fun q => nomatch q) o
        · rename_i c ks vs e1
          exact fin2 _ e1 (fun q => nomatch q) o
        · exact False.elim o
theorem start_rel {vs : List L2.V} {ws : List W} {Ns : List Str} (r : RepWs N K L H vs ws) (h : ws.length ≤ Ns.length) : RelE N K L H (L2.start Ns vs) (ws.map some ++ List.replicate (Ns.length - ws.length) none) := by
  refine ⟨by simp [L2.start, r.len], fun i w e => ?_⟩
  rw [List.getElem?_append] at e
  split at e
  · rename_i hi
    rw [List.getElem?_map] at e
    cases e1 : ws[i]? with
    | none => rw [e1] at e; cases e
    | some u =>
      rw [e1] at e
      simp only [Option.map_some, Option.some.injEq] at e
      subst e
      have key : ∀ {vs : List L2.V} {ws : List W} {i : Nat}, RepWs N K L H vs ws → ws[i]? = some u → ∃ v, vs[i]? = some v ∧ RepW N K L H v u := by
        intro vs ws i r
        induction r generalizing i with
        | nil => intro e; simp at e
        | cons r t ih =>
          intro e
          cases i with
          | zero => simp at e; subst e; exact ⟨_, rfl, r⟩
          | succ i => exact (ih (i := i) (by simpa using e)).imp fun v h => ⟨by simpa using h.1, h.2⟩
      obtain ⟨v, h1, h2⟩ := key r e1
      refine ⟨v, ?_, h2⟩
      unfold L2.start
      have hv : i < vs.length := (List.getElem?_eq_some_iff.mp h1).1
      rw [List.getElem?_append_left (by simpa using hv), List.getElem?_map, h1]
      rfl
  · rw [List.getElem?_replicate] at e
    split at e <;> cases e
end
section
variable {S : Sig} {T : List (Addr × Str)} {P : Program} {w : World} {K : PySem.W.Frag} {mg : Str → Option Value} {base : Heap}
/-- a def's place for lambdas -/
def LamD (K : PySem.W.Frag) (mg : Str → Option Value) (base : Heap) (T : List (Addr × Str)) (d : He.DefD) : Prop :=
  LamX.TabB base mg (He.cT K d.at_).1 (He.cT K d.at_).2 ∧ ((He.cT K d.at_).2, d.qual ++ ".<locals>." ++ "<lambda>") ∈ T ∧ ∀ p ∈ T, p.1 = (He.cT K d.at_).2 → p.2 = d.qual ++ ".<locals>." ++ "<lambda>"
/-- what is checked of a def -/
def fnB (S : Sig) (d : He.DefD) (N : List Str) (lam : Bool) (fn : TT.Fn) : Bool :=
  C8.scC N (N.take fn.np) d.scope && decide (fn.ns = N.length) && decide (fn.np ≤ N.length) && chkSs S fn.body ⟨N, d.scope, fun _ => true, lam⟩ d.body
theorem fn_step {l : Nat} {F : Nat → TT.Fun} {d : He.DefD} {N : List Str} {lam : Bool} {fn : TT.Fn} {fd : FuncData} {dvs : List L2.V} {kws : List (Str × L2.V)} (B : Base S P w K mg base T l F) (hl : 2 ≤ l) (Fd : FunD K d.name d.qual d.params d.body d.scope dvs kws (He.fAd K d.at_) fd) (chk : fnB S d N lam fn = true)
    (hlam : lam = true → 4 ≤ l ∧ LamD K mg base T d ∧ AskOk S.N P w K mg base T S.P.words S.asked) :
    FnOk P w K mg base (L2.CX P w) (l + 1) (He.fAd K d.at_) fd (N.take fn.np) (spF S.N K T (TT.runFn ⟨S.P, F⟩ fn)) := by
  unfold fnB at chk
  simp only [Bool.and_eq_true, decide_eq_true_eq] at chk
  obtain ⟨⟨⟨c1, c2⟩, c3⟩, c4⟩ := chk
  have SC := C8.fnScope_by c1
  obtain ⟨oc, od, dV, kV, doc, pm, an, cdv, ct, osl, rfl, lk, hcd, _, _⟩ := Fd.ex
  have len : ∀ vs H Q E, spF S.N K T (TT.runFn ⟨S.P, F⟩ fn) vs H Q E → vs.length = (N.take fn.np).length := by
    intro vs H Q E ⟨L, ws, s, rw', rs, o⟩
    unfold TT.runFn at o
    split at o
    · rename_i h
      rw [rw'.len, h.1, List.length_take]
      omega
    · exact False.elim o
  refine fn_of lk hcd SC len fun A outer s H vs Q E hr hsp => ?_
  obtain ⟨c, hc⟩ := He.codeIn_ref hcd
  have G : GoodS S T ⟨N, d.scope, fun _ => true, lam⟩ (cxOf (L2.CX P w) P w K mg base N d.qual d.scope (He.fAd K d.at_) cdv A outer s H E) ⟨S.P, F⟩ (fun cls d _ H => E cls d H) l := by
    refine ⟨⟨rfl, SC.nd, rfl, SC.kind, fun _ _ => rfl, rfl, hr, L2.takes_of rfl rfl rfl rfl, rfl, B, hl, fun h => ?_⟩, L2.passes_of rfl⟩
    obtain ⟨h1, ⟨h2, h3, h4⟩, h5⟩ := hlam h
    refine ⟨h1, ⟨c, (He.cT K d.at_).2, hc, ?_, h3, h4⟩, h5⟩
    have e : (He.cT K d.at_).1 = c := He.codeOf_eq lk hc
    rw [e] at h2
    exact h2
  refine ⟨_, sndSs fn.body _ d.body c4 G, ?_⟩
  obtain ⟨L, ws, st, rw', rs, o⟩ := hsp
  unfold TT.runFn at o
  split at o
  · rename_i h
    refine ⟨L, H, L, _, st, Pst.refl _ _, start_rel (Ns := N) rw' (by omega), rs, ?_⟩
    have ln : L.length = st.length := rs.len
    rw [ln]
    show Out S.N K T L H (flow S.N K 0 { nx := fun _ H' => Q .non H', rt := Q }) (erS S.N K fun cls d _ H => E cls d H) (TT.evSs ⟨S.P, F⟩ st.length fn.body (ws.map some ++ List.replicate (N.length - ws.length) none) st)
    have e1 : fn.ns - fn.np = N.length - ws.length := by omega
    rw [e1] at o
    cases hr : TT.evSs ⟨S.P, F⟩ st.length fn.body (ws.map some ++ List.replicate (N.length - ws.length) none) st with
    | no => rw [hr] at o; exact False.elim o
    | err x s2 =>
      rw [hr] at o
      exact fun L2 H2 p z σ => o L H2 (pst_back p) (rels_back p z ln)
    | ok r s2 =>
      rw [hr] at o
      obtain ⟨fl, e2⟩ := r
      intro L2 H2 p z
      cases fl with
      | nx => exact fun σ _ => o L H2 (pst_back p) (rels_back p z ln) .non .non
      | ret w' => exact fun v rv => leave_out p z rv ln o
      | brk => exact False.elim o
      | cnt => exact False.elim o
  · exact False.elim o
end
end TS

set_option maxRecDepth 100000
/-! Plain parameters. -/
namespace TS
open PySem PySem.Spec PyProof.Rows L2
theorem zip_look {α β : Type} [BEq α] [LawfulBEq α] : ∀ {ps : List α} {us : List β}, ps.Nodup → us.length = ps.length → ∀ {n : α}, n ∈ ps → ((ps.zip us).lookup n).isSome = true
  | [], _, _, _, _, h => by cases h
  | p :: ps, [], _, h, _, _ => by simp at h
  | p :: ps, u :: us, nd, h, n, hn => by
    rw [List.zip_cons_cons, List.lookup_cons]
    by_cases e : n == p
    · simp [e]
    · simp only [e]
      have : n ∈ ps := by
        rcases List.mem_cons.mp hn with q | q
        · subst q; simp at e
        · exact q
      exact zip_look (List.nodup_cons.mp nd).2 (by simpa using h) this
theorem fm_cong {α β : Type} {f g : α → Option β} : ∀ {l : List α}, (∀ x ∈ l, f x = g x) → l.filterMap f = l.filterMap g
  | [], _ => rfl
  | x :: l, h => by
    rw [List.filterMap_cons, List.filterMap_cons, h x (by simp), fm_cong fun y hy => h y (by simp [hy])]
theorem zip_map {α β : Type} [BEq α] [LawfulBEq α] : ∀ {ps : List α} {us : List β}, ps.Nodup → us.length = ps.length → (ps.filterMap fun n => ((ps.zip us).lookup n).map fun v => (n, v)) = ps.zip us
  | [], _, _, _ => by simp
  | p :: ps, [], _, h => by simp at h
  | p :: ps, u :: us, nd, h => by
    have ⟨n1, n2⟩ := List.nodup_cons.mp nd
    rw [List.zip_cons_cons, List.filterMap_cons]
    simp only [List.lookup_cons, beq_self_eq_true, Option.map_some]
    congr 1
    conv => rhs; rw [← zip_map (us := us) n2 (by simpa using h)]
    apply fm_cong
    intro x hx
    have : (x == p) = false := beq_eq_false_iff_ne.mpr fun e => n1 (e ▸ hx)
    rw [this]
def plainArgs : Arguments → List Str → Bool
  | ⟨[], as, none, [], [], none, []⟩, ps => decide (as.map (·.arg) = ps)
  | _, _ => false
theorem bind_plain {x qual : Str} {params : Arguments} {body : List Stmt} {scope : Scope} {kV doc pm : Value} {an : Option Addr} {cdv ct : Value} {ps : List Str} {us : List Value} (h : plainArgs params ps = true) (nd : ps.Nodup) (hl : us.length = ps.length) :
    bindArgs (PySem.W.fnOf x qual params body scope .none kV doc pm an cdv ct) ⟨us, []⟩ = pure (ps.zip us) := by
  unfold plainArgs at h
  split at h
  · rename_i as _
    have e := of_decide_eq_true h
    unfold bindArgs
    have e1 : seqItems? Value.none = pure none := rfl
    have e2 : (ps.filter fun n => ((ps.zip us).lookup n).isNone) = [] := by
      rw [List.filter_eq_nil_iff]
      intro n hn
      have := zip_look nd hl hn
      rw [Option.isNone_iff_eq_none]
      intro q
      rw [q] at this; cases this
    have e3 := zip_map (us := us) nd hl
    simp only [PySem.W.fnOf, e, e1]
    simp [hl, e2, e3]
  · cases h
end TS

set_option maxRecDepth 100000
/-! All defs at all depths; what the module keeps; the law's end. -/
namespace TS
open PySem PySem.Spec PyProof.Rows L2
def oneB (S : Sig) (e : DefS) (fn : TT.Fn) : Bool := fnB S e.d e.N e.lam fn && plainArgs e.d.params (e.N.take fn.np)
def allB (S : Sig) : List DefS → List TT.Fn → Bool
  | [], [] => true
  | e :: es, f :: fs => oneB S e f && allB S es fs
  | _, _ => false
theorem allB_at {S : Sig} : ∀ {es : List DefS} {fs : List TT.Fn}, allB S es fs = true → es.length = fs.length ∧ ∀ (i : Nat) (e : DefS) (f : TT.Fn), es[i]? = some e → fs[i]? = some f → oneB S e f = true
  | [], [], _ => ⟨rfl, fun i e f h => by simp at h⟩
  | e :: es, f :: fs, h => by
    simp only [allB, Bool.and_eq_true] at h
    obtain ⟨h1, h2⟩ := allB_at h.2
    refine ⟨by simp [h1], fun i e' f' q1 q2 => ?_⟩
    cases i with
    | zero => simp at q1 q2; subst q1; subst q2; exact h.1
    | succ i => exact h2 i e' f' (by simpa using q1) (by simpa using q2)
  | [], _ :: _, h => by cases h
  | _ :: _, [], h => by cases h
section
variable {S : Sig} {T : List (Addr × Str)} {P : Program} {w : World} {K : PySem.W.Frag} {mg : Str → Option Value} {base : Heap}
theorem phiA_le (Q : TT.Prog) : ∀ (k i : Nat), i ≤ k → TT.PhiA Q k i = TT.Phi Q (k - i)
  | k, 0, _ => rfl
  | k + 1, i + 1, h => by
    show TT.PhiA Q k i = _
    rw [phiA_le Q k i (by omega)]
    congr 1
    omega
theorem phiA_gt (Q : TT.Prog) : ∀ (k i : Nat), k ≤ i → TT.PhiA Q k i = fun _ _ _ => .no
  | 0, i, _ => by
    funext a b c
    rfl
  | k + 1, i + 1, h => phiA_gt Q k i (by omega)
theorem no_at {N : Nm} {k : Nat} {fa : Addr} {fd : FuncData} {ps : List Str} (B : Binds K fd ps []) : FnAt N P w K mg base T k (fun _ _ => .no) fa :=
  ⟨fd, ps, ⟨fun vs H Q E ⟨_, _, _, _, _, o⟩ => False.elim o, fun A outer s H args us vs Q E _ _ _ _ ⟨_, _, _, _, _, o⟩ => False.elim o⟩, B⟩
theorem all_ok {ds : List DefS} (bf : BaseF S K mg) (ats : S.ats = ds.map fun e => e.d.at_) (chk : allB S ds S.P.fns = true)
    (hd : ∀ e ∈ ds, ∃ fd, FunD K e.d.name e.d.qual e.d.params e.d.body e.d.scope [] [] (He.fAd K e.d.at_) fd)
    (hlam : ∀ e ∈ ds, e.lam = true → LamD K mg base T e.d ∧ AskOk S.N P w K mg base T S.P.words S.asked) :
    ∀ k n, n < S.P.fns.length → FnAt S.N P w K mg base T (k + 4) (TT.Phi S.P k n) (S.fa K n) := by
  obtain ⟨ln, chk⟩ := allB_at chk
  have info : ∀ n, n < S.P.fns.length → ∃ e f fd, ds[n]? = some e ∧ S.P.fns[n]? = some f ∧ e ∈ ds ∧ S.fa K n = He.fAd K e.d.at_ ∧ FunD K e.d.name e.d.qual e.d.params e.d.body e.d.scope [] [] (He.fAd K e.d.at_) fd ∧ fnB S e.d e.N e.lam f = true ∧ Binds K fd (e.N.take f.np) [] := by
    intro n hn
    have h1 : ds[n]? = some ds[n] := List.getElem?_eq_getElem (by omega)
    have h2 : S.P.fns[n]? = some S.P.fns[n] := List.getElem?_eq_getElem hn
    have hm : ds[n] ∈ ds := List.getElem_mem _
    obtain ⟨fd, F⟩ := hd _ hm
    have c := chk n _ _ h1 h2
    unfold oneB at c
    rw [Bool.and_eq_true] at c
    refine ⟨_, _, fd, h1, h2, hm, ?_, F, c.1, ?_⟩
    · unfold Sig.fa
      rw [ats, List.getElem?_map, h1]
      rfl
    · have c' := c.1
      unfold fnB at c'
      simp only [Bool.and_eq_true] at c'
      have sc := C8.fnScope_by c'.1.1.1
      exact F.bindsN fun kV doc pm an cdv ct us hl => bind_plain c.2 (sc.nd.sublist (List.take_sublist _ _)) hl
  intro k
  induction k using Nat.strongRecOn with
  | ind k ih =>
    intro n hn
    obtain ⟨e, f, fd, h1, h2, hm, h3, F, h4, B⟩ := info n hn
    cases k with
    | zero => exact no_at B
    | succ k =>
      have base' : Base S P w K mg base T (k + 4) (TT.PhiA S.P k) := by
        refine ⟨bf, fun i hi m hmm => ?_⟩
        by_cases q : i ≤ k
        · rw [phiA_le _ _ _ q, show k + 4 - i = (k - i) + 4 by omega]
          exact ih (k - i) (by omega) m hmm
        · rw [phiA_gt _ _ _ (by omega)]
          obtain ⟨_, _, fd', _, _, _, _, _, _, B'⟩ := info m hmm
          exact no_at B'
      have step := fn_step base' (by omega) F h4 fun hl => ⟨by omega, hlam e hm hl⟩
      rw [h3]
      refine ⟨fd, e.N.take f.np, ?_, B⟩
      have ev : TT.Phi S.P (k + 1) n = TT.runFn ⟨S.P, TT.PhiA S.P k⟩ f := by
        funext ws s
        show TT.runAll S.P (TT.PhiA S.P k) n ws s = _
        unfold TT.runAll
        rw [h2]
      rw [ev]
      exact step
end
/-! ### facts -/
def smallS (x : Str) : Bool := x.cps.toList.all fun c => decide (c < 2000000)
/-- the tables fit -/
def Sig.okB (S : Sig) : Bool :=
  (S.gl.all fun p => decide (S.ats[p.2]? = some (p.1, none))) && (S.cls.all fun p => decide (S.N.cs[p.2]? = some p.1)) &&
  (S.P.inits.all fun p => decide (p.1 < S.N.cs.length) && decide (S.ats[p.2]? = some (S.N.cn p.1, some ("__init__" : Str)))) &&
  (S.P.meths.all fun t => decide (t.2.2 < S.P.fns.length) && decide (S.ats[t.2.2]? = some (S.N.cn t.1, some (S.N.mn t.2.1)))) &&
  (S.cons.all fun p => match p.2 with
    | .int _ => true
    | .str _ => true
    | _ => false) && (S.blts.all fun x => !(x == ("__name__" : Str))) &&
  decide S.N.as.Nodup && (S.N.as.all fun x => smallS x && decide (x ∉ S.N.ms)) && S.N.ms.all smallS
theorem nmAt_get {k : Nat} {l : List Str} {i : Nat} {x : Str} (h : l[i]? = some x) : nmAt k l i = x := by
  unfold nmAt
  rw [h]
theorem nmAt_out {k : Nat} {l : List Str} {i : Nat} (h : l[i]? = none) : nmAt k l i = ⟨#[k, i]⟩ := by
  unfold nmAt
  rw [h]
theorem small_ne {x : Str} {k i : Nat} (h : smallS x = true) (hk : 2000000 ≤ k) : x ≠ ⟨#[k, i]⟩ := by
  intro e
  subst e
  unfold smallS at h
  simp at h
  omega
theorem nm_ok {S : Sig} {K : PySem.W.Frag} (h1 : S.N.as.Nodup) (h2 : ∀ x ∈ S.N.as, smallS x = true ∧ x ∉ S.N.ms) (h3 : ∀ x ∈ S.N.ms, smallS x = true) (fa : ∀ f ∈ S.facts, f.ok K = true) : NmOk S.N K where
  inj := fun i j e => by
    unfold Nm.an at e
    cases hi : S.N.as[i]? with
    | none =>
      rw [nmAt_out hi] at e
      cases hj : S.N.as[j]? with
      | none =>
        rw [nmAt_out hj] at e
        simpa using e
      | some y =>
        rw [nmAt_get hj] at e
        exact absurd e.symm (small_ne (h2 y (List.mem_of_getElem? hj)).1 (by decide))
    | some x =>
      rw [nmAt_get hi] at e
      cases hj : S.N.as[j]? with
      | none =>
        rw [nmAt_out hj] at e
        exact absurd e (small_ne (h2 x (List.mem_of_getElem? hi)).1 (by decide))
      | some y =>
        rw [nmAt_get hj] at e
        subst e
        have a1 := List.getElem?_eq_some_iff.mp hi
        have a2 := List.getElem?_eq_some_iff.mp hj
        have pw := List.pairwise_iff_getElem.mp h1
        rcases Nat.lt_trichotomy i j with q | q | q
        · exact absurd (a1.2.trans a2.2.symm) (pw i j a1.1 a2.1 q)
        · exact q
        · exact absurd (a2.2.trans a1.2.symm) (pw j i a2.1 a1.1 q)
  dis := fun i m e => by
    unfold Nm.an Nm.mn at e
    cases hi : S.N.as[i]? with
    | none =>
      rw [nmAt_out hi] at e
      cases hj : S.N.ms[m]? with
      | none => rw [nmAt_out hj] at e; simp at e
      | some y =>
        rw [nmAt_get hj] at e
        exact absurd e.symm (small_ne (h3 y (List.mem_of_getElem? hj)) (by decide))
    | some x =>
      rw [nmAt_get hi] at e
      cases hj : S.N.ms[m]? with
      | none =>
        rw [nmAt_out hj] at e
        exact absurd e (small_ne (h2 x (List.mem_of_getElem? hi)).1 (by decide))
      | some y =>
        rw [nmAt_get hj] at e
        subst e
        exact (h2 x (List.mem_of_getElem? hi)).2 (List.mem_of_getElem? hj)
  cls := fun c hc => by
    have e : S.N.cs[c]? = some S.N.cs[c] := List.getElem?_eq_getElem hc
    unfold Nm.ca Nm.cn
    rw [nmAt_get e]
    refine He.cls_ok (fa _ ?_)
    unfold Sig.facts
    simp only [List.mem_append, List.mem_map]
    exact .inr (.inr (.inr (.inr (.inl ⟨_, List.getElem_mem hc, rfl⟩))))
  noat := fun c f hc hf => by
    have e : S.N.cs[c]? = some S.N.cs[c] := List.getElem?_eq_getElem hc
    have e' : S.N.as[f]? = some S.N.as[f] := List.getElem?_eq_getElem hf
    unfold Nm.ca Nm.cn Nm.an
    rw [nmAt_get e, nmAt_get e']
    refine He.noat_ok (fa _ ?_)
    unfold Sig.facts
    simp only [List.mem_append, List.mem_map, List.mem_flatMap]
    exact .inr (.inr (.inr (.inr (.inr (.inl ⟨_, List.getElem_mem hc, _, List.getElem_mem hf, rfl⟩)))))
theorem lookup_mem {α β : Type} [BEq α] [LawfulBEq α] {x : α} {y : β} : ∀ {l : List (α × β)}, l.lookup x = some y → (x, y) ∈ l
  | [], h => by cases h
  | (a, b) :: l, h => by
    rw [List.lookup_cons] at h
    by_cases e : x == a
    · simp only [e] at h
      cases h
      have := eq_of_beq e
      subst this
      exact List.mem_cons_self
    · simp only [e] at h
      exact List.mem_cons_of_mem _ (lookup_mem h)
theorem base_f {S : Sig} {K : PySem.W.Frag} {h : Heap} {mg : Str → Option Value} (ok : S.okB = true) (nw : nwB S K = true) (X : K.In h) (G : h.Ns mainGlobals mg) (fa : ∀ f ∈ S.facts, f.ok K = true) (kp : ∀ (n : Nat) (p : Str × Option Str), S.ats[n]? = some p → PySem.W.keepIn K (.ref (He.fAd K p)) = true) : BaseF S K mg := by
  unfold Sig.okB at ok
  simp only [Bool.and_eq_true, List.all_eq_true, decide_eq_true_eq] at ok
  obtain ⟨⟨⟨⟨⟨⟨⟨⟨o1, o2⟩, o3⟩, o4⟩, o5⟩, o6⟩, o7⟩, o8⟩, o9⟩ := ok
  have at_ : ∀ {n : Nat} {p : Str × Option Str}, S.ats[n]? = some p → S.fa K n = He.fAd K p := fun e => by unfold Sig.fa; rw [e]
  refine ⟨nm_ok o7 o8 o9 fa, fun x hx => ⟨He.free_ok X G (fa _ ?_), ?_⟩, fun x d hd => ?_, fun x n hn => ?_, fun x cl hc => ?_, fun x cl hc hi => ?_, isi_of (Bool.and_eq_true_iff.mp (Bool.and_eq_true_iff.mp nw).2).1, fun c hc => ?_, fun cl m n hm => ?_, fun i x hx => ?_⟩
  · unfold Sig.facts
    simp only [List.mem_append, List.mem_map]
    exact .inr (.inr (.inl ⟨x, hx, rfl⟩))
  · have := o6 x hx
    simpa using this
  · have hm := lookup_mem hd
    have := o5 _ hm
    have key : ∀ f ∈ conF (x, d), f ∈ S.facts := fun f hf => by
      unfold Sig.facts
      simp only [List.mem_append, List.mem_flatMap]
      exact .inr (.inr (.inr (.inl ⟨_, hm, hf⟩)))
    cases d <;> first | (cases this; done) | skip
    · rename_i i
      obtain ⟨t, e⟩ := He.int_ok X G (fa _ (key (.int x i) (by simp [conF])))
      exact ⟨_, .int _, e, ⟨t, rfl⟩, fun L H => .int _⟩
    · rename_i z
      obtain ⟨t, e⟩ := He.str_ok X G (fa _ (key (.str x z) (by simp [conF])))
      exact ⟨_, .str _, e, ⟨t, rfl⟩, fun L H => .str _⟩
  · have e := o1 _ (lookup_mem hn)
    rw [at_ e]
    refine ⟨He.glo_ok X G (fa _ ?_), kp n _ e⟩
    unfold Sig.facts
    simp only [List.mem_append, List.mem_map]
    exact .inl ⟨_, lookup_mem hn, rfl⟩
  · have e := o2 _ (lookup_mem hc)
    have hlt := (List.getElem?_eq_some_iff.mp e).1
    have en : S.N.cn cl = x := nmAt_get e
    refine ⟨hlt, ?_, fun n hi => ?_⟩
    · unfold Nm.ca
      rw [en]
      refine He.glo_ok X G (fa _ ?_)
      unfold Sig.facts
      simp only [List.mem_append, List.mem_map]
      exact .inr (.inl ⟨_, lookup_mem hc, rfl⟩)
    · have e2 := (o3 _ (lookup_mem hi)).2
      rw [at_ e2]
      refine He.mkr_ok (fa _ ?_)
      unfold Sig.facts
      simp only [List.mem_append, List.mem_map]
      exact .inr (.inr (.inr (.inr (.inr (.inr (.inl ⟨_, lookup_mem hi, rfl⟩))))))
  · have := List.all_eq_true.mp (Bool.and_eq_true_iff.mp nw).1 _ (lookup_mem hc)
    simp only [hi] at this
    exact mk0_of this
  · exact oeq_of (List.all_eq_true.mp (Bool.and_eq_true_iff.mp (Bool.and_eq_true_iff.mp nw).2).2 c (List.mem_range.mpr hc))
  · unfold TT.Prog.meth at hm
    rw [Option.map_eq_some_iff] at hm
    obtain ⟨t, h1, rfl⟩ := hm
    have h2 := List.find?_some h1
    have h3 := List.mem_of_find?_eq_some h1
    simp only [Bool.and_eq_true, beq_iff_eq] at h2
    obtain ⟨rfl, rfl⟩ := h2
    have e := o4 _ h3
    refine ⟨e.1, ?_⟩
    rw [at_ e.2]
    refine He.meth_ok (fa _ ?_)
    unfold Sig.facts
    simp only [List.mem_append, List.mem_map]
    exact .inr (.inr (.inr (.inr (.inr (.inr (.inr (.inl ⟨_, h3, rfl⟩)))))))
  · have en : S.N.en i = x := nmAt_get hx
    unfold Nm.ea
    rw [en]
    have m1 : He.Fa.glo x ∈ S.facts := by
      unfold Sig.facts
      simp only [List.mem_append, List.mem_map]
      exact .inr (.inr (.inr (.inr (.inr (.inr (.inr (.inr (.inl ⟨x, List.mem_of_getElem? hx, rfl⟩))))))))
    have m2 : He.Fa.exc x ∈ S.facts := by
      unfold Sig.facts
      simp only [List.mem_append, List.mem_map]
      exact .inr (.inr (.inr (.inr (.inr (.inr (.inr (.inr (.inr ⟨x, List.mem_of_getElem? hx, rfl⟩))))))))
    obtain ⟨k1, k2, k3, k4⟩ := He.exc_ok (fa _ m2)
    exact ⟨He.glo_ok X G (fa _ m1), k1, k2, k3, k4⟩
end TS

set_option maxRecDepth 100000
/-! The law's end. -/
namespace TS
open PySem PySem.Spec PyProof.Rows L2
theorem map_inj {α β : Type} {f : α → β} : ∀ {l : List α}, (l.map f).Nodup → ∀ {a b : α}, a ∈ l → b ∈ l → f a = f b → a = b
  | [], _, _, _, h, _, _ => by cases h
  | x :: l, nd, a, b, ha, hb, e => by
    rw [List.map_cons, List.nodup_cons] at nd
    rcases List.mem_cons.mp ha with ea | ha'
    · rcases List.mem_cons.mp hb with eb | hb'
      · rw [ea, eb]
      · exact absurd (List.mem_map.mpr ⟨b, hb', by rw [← e, ea]⟩) nd.1
    · rcases List.mem_cons.mp hb with eb | hb'
      · exact absurd (List.mem_map.mpr ⟨a, ha', by rw [e, eb]⟩) nd.1
      · exact map_inj nd.2 ha' hb' e
section
variable {S : Sig} {P : Program} {w : World} {K : PySem.W.Frag} {mg : Str → Option Value} {base : Heap} {ds : List DefS}
theorem lamD_of (nd : exT ds K = true) (tb : ∀ p ∈ (tfOf ds).map (He.cT K), LamX.TabB base mg p.1 p.2) {e : DefS} (he : e ∈ ds) (hl : e.lam = true) : LamD K mg base (tabT ds K) e.d := by
  have hm : e ∈ lams ds := List.mem_filter.mpr ⟨he, hl⟩
  refine ⟨tb _ (List.mem_map.mpr ⟨e.d.at_, List.mem_map.mpr ⟨e, hm, rfl⟩, rfl⟩), List.mem_map.mpr ⟨e, hm, rfl⟩, fun p hp q => ?_⟩
  obtain ⟨e', hm', rfl⟩ := List.mem_map.mp hp
  have nd' := of_decide_eq_true nd
  have := map_inj (f := fun e : DefS => (He.cT K e.d.at_).2) nd' hm' hm q
  subst this
  rfl
/-- of a def with its record -/
theorem top_ok {T : List (Addr × Str)} (bf : BaseF S K mg) (ats : S.ats = ds.map fun e => e.d.at_) (chk : allB S ds S.P.fns = true)
    (hd : ∀ e ∈ ds, ∃ fd, FunD K e.d.name e.d.qual e.d.params e.d.body e.d.scope [] [] (He.fAd K e.d.at_) fd)
    (hlam : ∀ e ∈ ds, e.lam = true → LamD K mg base T e.d ∧ AskOk S.N P w K mg base T S.P.words S.asked) {k n : Nat} {e : DefS} {f : TT.Fn} {fd : FuncData} (h1 : ds[n]? = some e) (h2 : S.P.fns[n]? = some f)
    (F : FunD K e.d.name e.d.qual e.d.params e.d.body e.d.scope [] [] (He.fAd K e.d.at_) fd) : FnOk P w K mg base (L2.CX P w) (k + 5) (He.fAd K e.d.at_) fd (e.N.take f.np) (spF S.N K T (TT.Phi S.P (k + 1) n)) := by
  have all := all_ok bf ats chk hd hlam
  obtain ⟨ln, c⟩ := allB_at chk
  have c := c n e f h1 h2
  unfold oneB at c
  rw [Bool.and_eq_true] at c
  have base' : Base S P w K mg base T (k + 4) (TT.PhiA S.P k) := by
    refine ⟨bf, fun i hi m hmm => ?_⟩
    by_cases q : i ≤ k
    · rw [phiA_le _ _ _ q, show k + 4 - i = (k - i) + 4 by omega]
      exact all (k - i) m hmm
    · rw [phiA_gt _ _ _ (by omega)]
      obtain ⟨fd', ps', _, B'⟩ := all 0 m hmm
      exact no_at B'
  have step := fn_step base' (by omega) F c.1 fun hl => ⟨by omega, hlam e (List.mem_of_getElem? h1) hl⟩
  have ev : TT.Phi S.P (k + 1) n = TT.runFn ⟨S.P, TT.PhiA S.P k⟩ f := by
    funext ws s
    show TT.runAll S.P (TT.PhiA S.P k) n ws s = _
    unfold TT.runAll
    rw [h2]
  rw [ev]
  exact step
theorem rep_ints {N : Nm} {L : Loc} {H : Hp} : ∀ (ns : List Int), RepDs N K L H (ns.map V.int) (ns.map TT.D.int)
  | [] => .nil
  | n :: ns => .cons (.int n) (rep_ints ns)
/-- what the checks say of the tables and the texts -/
structure Plan (S : Sig) (ds : List DefS) (li : Nat) (x : Str) : Prop where
  ok : S.okB = true
  ats : S.ats = ds.map fun e => e.d.at_
  chk : allB S ds S.P.fns = true
  plain : (ds.all fun e => e.d.dfl.isEmpty && e.d.kwd.isEmpty) = true
  law : S.ats[li]? = some (("law" : Str), none)
  par : (match ds[li]?, S.P.fns[li]? with
    | some e, some f => decide (e.N.take f.np = [x])
    | _, _ => false) = true
theorem law_at {l : PySem.W.OpenLaw} {ex : PySem.W.Frag → Bool} {h : Heap} {fa0 : Addr} {li k : Nat} {x : Str} {more : List He.Fa} {defs : List He.DefD} (pl : Plan S ds li x) (KX : K.In h) (G : h.Ns mainGlobals mg) (hmg : mg ("law" : Str) = some (.ref fa0))
    (c : He.SaysX (.glo "law" :: (S.facts ++ more)) (ds.map (·.d) ++ defs) [] (tfOf ds) ex w h K) (hex : ex K = true → exT ds K = true) (hnw : ex K = true → nwB S K = true)
    (ask : (∀ e ∈ ds, e.lam = false) ∨ ∀ base : Heap, K.In base → base.Ns mainGlobals mg → AskOk S.N l.prog w K mg base (tabT ds K) S.P.words S.asked)
    (run : ∀ ns : List Int, ns.length ≤ 63 → (∀ z ∈ ns, Builtin.Int.intBits z ≤ 1048576) → ∃ s, TT.Phi S.P (k + 1) li [.d (.rol (ns.map .int))] [] = .ok (.d (.bl true)) s) :
    LamX.LawAtS l w K (L2.CX l.prog w) (k + 5) 63 x mg fa0 h := by
  have cd := c.t.d
  have hd : ∀ e ∈ ds, ∃ fd, FunD K e.d.name e.d.qual e.d.params e.d.body e.d.scope [] [] (He.fAd K e.d.at_) fd := fun e he => by
    obtain ⟨fd, F⟩ := cd.defs (d := e.d) (List.mem_append_left _ (List.mem_map.mpr ⟨e, he, rfl⟩))
    have p := List.all_eq_true.mp pl.plain e he
    rw [Bool.and_eq_true, List.isEmpty_iff, List.isEmpty_iff] at p
    have e1 : e.d.dvs K = [] := by unfold He.DefD.dvs; rw [p.1]; rfl
    have e2 : e.d.kws K = [] := by unfold He.DefD.kws; rw [p.2]; rfl
    rw [e1, e2] at F
    exact ⟨fd, F⟩
  have fa : ∀ f ∈ S.facts, f.ok K = true := fun f hf => cd.facts (List.mem_cons_of_mem _ (List.mem_append_left _ hf))
  have bf : BaseF S K mg := base_f pl.ok (hnw c.more) KX G fa fun n p e => by
    rw [pl.ats, List.getElem?_map] at e
    cases h1 : ds[n]? with
    | none => rw [h1] at e; cases e
    | some d =>
      rw [h1] at e
      cases e
      obtain ⟨fd, F⟩ := hd d (List.mem_of_getElem? h1)
      exact F.kp
  have par := pl.par
  have law := pl.law
  split at par
  · rename_i e f h1 h2
    have ps := of_decide_eq_true par
    rw [pl.ats, List.getElem?_map, h1] at law
    simp only [Option.map_some, Option.some.injEq] at law
    have hm := List.mem_of_getElem? h1
    obtain ⟨fd, F⟩ := hd e hm
    have ef : He.fAd K e.d.at_ = fa0 := by
      rw [law]
      have := He.glo_ok KX G (cd.facts (f := .glo "law") List.mem_cons_self)
      rw [hmg] at this
      cases this
      rfl
    obtain ⟨ln, ck⟩ := allB_at pl.chk
    have ck := ck li e f h1 h2
    unfold oneB at ck
    rw [Bool.and_eq_true] at ck
    have ck1 := ck.1
    unfold fnB at ck1
    simp only [Bool.and_eq_true] at ck1
    have sc := C8.fnScope_by ck1.1.1.1
    refine ⟨fd, (tfOf ds).map (He.cT K), spF S.N K (tabT ds K) (TT.Phi S.P (k + 1) li), fun p hp => ?_, fun p hp => ?_, fun p hp => ?_, fun s u => ?_, fun H a ns hl hb ht hs => ?_, fun base KB GB tb => ?_⟩
    · obtain ⟨q, hq, rfl⟩ := List.mem_map.mp hp
      exact c.empty q hq
    · obtain ⟨q, hq, rfl⟩ := List.mem_map.mp hp
      exact c.out q hq
    · obtain ⟨q, hq, rfl⟩ := List.mem_map.mp hp
      exact PySem.W.codeHd_of_K KX (c.hd q hq)
    · have := F.bindsA (ps := e.N.take f.np) (fun kV doc pm an cdv ct us hl => bind_plain ck.2 (sc.nd.sublist (List.take_sublist _ _)) hl) s [u] (by rw [ps]; rfl)
      rw [ps] at this
      exact this
    · obtain ⟨s, e2⟩ := run ns hl hb
      refine ⟨[], [.d (.rol (ns.map .int))], [], .cons (RepD.rol ?_ (rep_ints ns)) .nil, ⟨rfl, fun l k a h1 => by simp at h1, fun a h1 => by simp at h1, fun l m h1 => by simp at h1, fun p hp => ?_⟩, ?_⟩
      · rcases hs with hs | hs
        · exact .inl ⟨by simp, hs⟩
        · exact .inr hs
      · obtain ⟨e', hm', rfl⟩ := List.mem_map.mp hp
        exact LamX.TabS.nil (ht _ (List.mem_map.mpr ⟨e'.d.at_, List.mem_map.mpr ⟨e', hm', rfl⟩, rfl⟩))
      · rw [e2]
        intro L' H' p z v rv
        exact RepD.bl_inv rv
    · have := top_ok (k := k) (T := tabT ds K) (base := base) (P := l.prog) (w := w) bf pl.ats pl.chk hd (fun e' he' hl => ⟨lamD_of (hex c.more) tb he' hl, by
        rcases ask with a | a
        · rw [a e' he'] at hl; cases hl
        · exact a base KB GB⟩) h1 h2 F
      rw [ef, ps] at this
      exact this
  · cases par
end
end TS

set_option maxRecDepth 100000
/-! A def called while one known exception is handled. -/
namespace TS
open PySem PySem.Spec PyProof.Rows L2 L2H
/-- what a def promises there; p is the exception -/
structure HotRun (P : Program) (w : World) (K : PySem.W.Frag) (mg : Str → Option Value) (base : Heap) (k : Nat) (f : Addr) (fd : FuncData) (ps : List Str) (p : Addr × Obj) (sp : Sp) : Prop where
  len : ∀ vs H Q E, sp vs H Q E → vs.length = ps.length
  run : ∀ (A : Around) (outer : List Env) (s : Shared) (H : Hp) (args : Args) (us : List Value) (vs : List V) (Q : VK) (E : XK), RoomH k A → PinOk outer H s p → Env0 P w K mg base A outer s H → BindsTo s fd args (ps.zip us) → Vals vs us → sp vs H Q E →
    codeAny (model P w) A (.call (.ref f) args) (CR C8.CX0 outer P w H s Q E) s
section
variable {P : Program} {w : World} {K : PySem.W.Frag} {mg : Str → Option Value} {base : Heap}
theorem hot_of {k : Nat} {f : Addr} {name qual : Str} {params : Arguments} {body : List Stmt} {scope : Scope} {dV kV doc pm cdv ct oc : Value} {an od : Option Addr} {osl : Array (Option Value)} {N ps : List Str} {p : Addr × Obj} {sp : Sp}
    (lk : K.lookup f = some ⟨oc, od, .func (PySem.W.fnOf name qual params body scope dV kV doc pm an cdv ct), osl⟩) (hcd : PySem.W.codeIn K cdv qual = true) (S : FnScope N ps scope) (len : ∀ vs H Q E, sp vs H Q E → vs.length = ps.length)
    (hb : ∀ (A : Around) (outer : List Env) (s : Shared) (H : Hp) (vs : List V) (Q : VK) (E : XK), RoomH k (A.deeper (envOfC qual scope s.heap.objs.size f cdv)) → sp vs H Q E →
      ∃ t, PSs (cxH C8.CX0 P w K mg base N qual scope f cdv A outer s H E p).nox body t ∧ t { nx := fun _ H' => Q .non H', rt := Q } (L2.start N vs) H) :
    HotRun P w K mg base (k + 1) f (PySem.W.fnOf name qual params body scope dV kV doc pm an cdv ct) ps p sp where
  len := len
  run := by
    intro A outer s H args us vs Q E room pin e0 bd rv hsp
    have ln := len _ _ _ _ hsp
    have kin : K.In s.heap := e0.mod.kin.keeps fun b o e => (e0.bs b o e).1
    have nolim : s.heap.NoLimit := e0.mod.nolimit.keeps fun b o e => (e0.bs b o e).1
    have parK : ∀ y ∈ ps.zip us, scope.names.lookup y.1 = some .local ∨ (scope.names.lookup y.1 = some .cell ∧ ((cellsFrom (s.heap.objs.size + 1) scope.names []).lookup y.1).isSome = true) := by
      rintro ⟨n, v⟩ m
      cases S.par n (List.of_mem_zip m).1 with
      | inl c => exact .inl c
      | inr c => exact .inr ⟨c, PySem.W.cellsFrom_some _ _ _ (.inl c)⟩
    apply codeAny_call_function room.depth (kin _ _ lk) rfl S.co S.gen rfl (PySem.W.codeRec_of kin hcd)
    apply bd
    refine wpAny_newFunctionEnv_cells S.kind parK ?_
    rintro env rfl s1 x
    refine ⟨nolim.keeps x.toInCall.keep, codeAny_func ?_⟩
    obtain ⟨t, ht, q⟩ := hb A outer s H vs Q E (room.deeper _) hsp
    have J := inv_startH (CX := C8.CX0) (E := E) S pin e0 ln rv x
    refine wpAny_mono (ht.nox.run [] s1 _ H _ J q) ?_ fun _ _ z => z
    rintro fl s' hs
    cases fl with
    | ret u =>
      obtain ⟨v, _, H', J', r', q'⟩ := hs
      exact ⟨v, H', J'.os, J'.bare, J'.base, J'.hok, r', q'⟩
    | next =>
      obtain ⟨_, H', J', q'⟩ := hs
      exact ⟨.non, H', J'.os, J'.bare, J'.base, J'.hok, rfl, q'⟩
    | brk => exact hs.elim fun _ h => h.elim fun _ h => False.elim h.2
    | cont => exact hs.elim fun _ h => h.elim fun _ h => False.elim h.2
/-- f(x), x a name, where p is handled -/
theorem pe_hot {X : Cx} {k : Nat} {f : Addr} {fd : FuncData} {ps : List Str} {p : Addr × Obj} {sp : Sp} {x : Str} {e : Expr} {q pos : Pos} {t : TA} (F : HotRun X.prog X.w X.K X.mg X.base k f fd ps p sp) (hr : RoomH k X.A) (hp : p ∈ X.pn) (hg : Gl X x) (hm : X.mg x = some (.ref f)) (hk : PySem.W.keepIn X.K (.ref f) = true) (hb : Binds X.K fd ps [])
    (ha : PA X [e] t) (hd : (x == ("__debug__" : Str)) = false) (hs : noStar e = true) : PE X (.Call (.Name x q) [e] [] pos) (fun σ H Q => t σ H fun vs H1 => sp vs H1 Q (fun _ _ _ => False)) := by
  constructor
  intro pins s σ H Q I h
  refine wpAny_Call_Name_kw (ld_glob I hg hm ?_ hd)
  refine PySem.W.callWith_K (h₀ := X.base) I.ok.mod.kin hk ?_ (star1 hs) (back_any (es := []) rfl)
  refine thn (ha.run pos pins s σ H _ I h) ?_
  rintro us s1 ⟨vs, H1, J, rv, h1⟩
  refine ⟨J.kIn, ?_⟩
  have ln : us.length = ps.length := by rw [← rv.length]; exact F.len _ _ _ _ h1
  have bd := hb s1 us J.kIn (by rw [List.append_nil]; exact ln)
  rw [List.append_nil] at bd
  have pin := J.pin p (List.mem_append_left _ hp)
  have po : PinOk X.stack H1 s1 p := ⟨pin.1, pin.2.1, fun m => (List.mem_cons.mp (J.stkSub p.1 m)).elim pin.2.2.1 pin.2.2.2.1, pin.2.2.2.2⟩
  refine wpAny_call (codeAny_mono (F.run X.A X.stack s1 H1 ⟨us, []⟩ us vs Q _ hr po J.env0 bd rv h1) ?_)
  rintro r s2 hq
  cases r with
  | error e => exact False.elim hq
  | ok fl =>
    cases fl with
    | ret u => exact J.after hq
    | next => exact False.elim hq
    | brk => exact False.elim hq
    | cont => exact False.elim hq
/-- isinstance(e, c), e the exception that is handled -/
theorem call_isP {X : Cx} {D : Addr} {p : Addr × Obj} (hp : p ∈ X.pn) (C : ExcC X.K D) (hz : Zc (.ref D) none p.2) (hf : ∃ vs, p.2.data = .fields vs) : CallR X (.builtin "isinstance") (rIsE X.K D p.1) := by
  intro pins s σ H xs us Q I r h
  obtain ⟨c, cv, b, rfl, hcv, e, q⟩ := h
  cases r with
  | cons rx rr =>
    cases rr with
    | cons rt rr =>
      cases rr
      cases rx
      have ec := hcv _ rt
      subst ec
      have hget := (I.pin p (List.mem_append_left _ hp)).1
      obtain ⟨a, oe⟩ := p
      obtain ⟨vs, hv⟩ := hf
      obtain ⟨oc, od, oda, osl⟩ := oe
      obtain ⟨h1, h2⟩ := hz
      dsimp only at h1 h2 hv hget
      subst h1 h2 hv
      have J : PySem.W.InstAt s.heap a ⟨.ref D, none, .fields vs, osl⟩ D none := ⟨hget, rfl, rfl, trivial⟩
      exact PySem.W.kia_one (PySem.W.handS_kitx_exc C.hg C.hk C.hs C.hd C.ha C.hn C.ht C.hm) I.kIn J e (fun z => nomatch z) fun tk => ⟨.bl b, H, I.kept (t' := tk) fun _ _ z => z, rfl, q⟩
end
end TS

set_option maxRecDepth 100000
set_option maxHeartbeats 1000000
/-! The def that tells an error's word, run while the error is handled. -/
namespace TS
open PySem PySem.Spec PyProof.Rows L2 L2H
abbrev has0 (a : Addr) (σ : L2.St) : Prop := σ[0]? = some (some (.ref a))
section
variable {N : Nm} {X : Cx} {T : List (Addr × Str)} {a : Addr} {K : PySem.W.Frag}
def cX (N : Nm) (K : PySem.W.Frag) (T : List (Addr × Str)) (a : Addr) (f : TT.Env → Sto → TT.R W) : TE := fun σ H Q => has0 a σ ∧ cE N K T Wx0 f σ H Q
def cXA (N : Nm) (K : PySem.W.Frag) (T : List (Addr × Str)) (a : Addr) (f : TT.Env → Sto → TT.R (List W)) : TA := fun σ H Q => has0 a σ ∧ cA N K T Wx0 f σ H Q
def cXT (N : Nm) (K : PySem.W.Frag) (T : List (Addr × Str)) (a : Addr) (f : TT.Env → Sto → TT.R Bool) : TT := fun σ H Q => has0 a σ ∧ cT N K T Wx0 f σ H Q
theorem cE_mono {f : TT.Env → Sto → TT.R W} {σ : L2.St} {H : Hp} {Q Q' : VK} (h : cE N K T Wx0 f σ H Q) (q : ∀ v H1, Q v H1 → Q' v H1) : cE N K T Wx0 f σ H Q' := by
  obtain ⟨L, e, s, re, rs, o⟩ := h
  exact ⟨L, e, s, re, rs, o.mono (fun w L' H' s' _ _ h v rv => q v H' (h v rv)) fun _ _ z => z⟩
theorem x_e {e : Expr} {f : TT.Env → Sto → TT.R W} (h : PE X e (cE N X.K T Wx0 f)) : PE X e (cX N X.K T a f) := PEw h fun σ H Q q => q.2
theorem x_t {e : Expr} {f : TT.Env → Sto → TT.R Bool} (h : PT X e (cT N X.K T Wx0 f)) : PT X e (cXT N X.K T a f) := PTw h fun σ H Q q => q.2
/-- what isinstance says of the handled error and the class of a name -/
structure IsAt (X : Cx) (D a : Addr) (cn : Str) (b : Bool) : Prop where
  gl : Gl X cn
  db : (cn == ("__debug__" : Str)) = false
  cl : (∃ C : Addr, X.mg cn = some (.ref C) ∧ PySem.W.kitOne X.K (.ref D) (.ref C) = some b) ∨ (∃ q : String, X.mg cn = none ∧ bootBuiltins cn = some (.type q) ∧ cn ≠ "__name__" ∧ PySem.W.kitOne X.K (.ref D) (.type q) = some b)
theorem x_is {D : Addr} {ev cn : Str} {b : Bool} {p q r pos : Pos} (c : TT.Cxt) (hi : CallR X (.builtin "isinstance") (rIsE X.K D a)) (hb : Blt X "isinstance" (.builtin "isinstance")) (h0 : X.N[0]? = some ev) (hv : Vis X.env.scope ev) (hn : nm1 ev = true) (h : IsAt X D a cn b) :
    PE X (.Call (.Name "isinstance" p) [.Name ev q, .Name cn r] [] pos) (cX N X.K T a (TT.evE c (.k (.bl b)))) := by
  have pv := pe_var (pos := q) h0 hv (nm_of hn).1 (nm_of hn).2
  rcases h.cl with ⟨C, m, k⟩ | ⟨ty, m, bt, nn, k⟩
  · have pc := pe_glob (pos := r) (v := V.ref C) h.gl m rfl h.db
    refine PEw (pe_callB hi hb.gl hb.no hb.at_ (pa_cons pv (pa_cons pc pa_nil (star1 rfl)) (star1 rfl)) hb.n1 hb.n2 (star1 rfl) (back_any (es := [.Name cn r]) rfl)) fun σ H Q ⟨z, L, e, s, re, rs, o⟩ => ?_
    exact ⟨_, z, V.ref C, .ref C, b, rfl, fun u hu => hu, k, o.here rs _ (.bl b)⟩
  · have pc : PE X (.Name cn r) (tC (.ty ty)) := pe_bltn h.gl m bt rfl nn h.db
    refine PEw (pe_callB hi hb.gl hb.no hb.at_ (pa_cons pv (pa_cons pc pa_nil (star1 rfl)) (star1 rfl)) hb.n1 hb.n2 (star1 rfl) (back_any (es := [.Name cn r]) rfl)) fun σ H Q ⟨z, L, e, s, re, rs, o⟩ => ?_
    exact ⟨_, z, V.ty ty, .type ty, b, rfl, fun u hu => hu, k, o.here rs _ (.bl b)⟩
/-! ### lists -/
def esB : List Bool → TT.Es
  | [] => .nil
  | b :: r => .cons (.k (.bl b)) (esB r)
def esS : List Str → TT.Es
  | [] => .nil
  | b :: r => .cons (.k (.str b)) (esS r)
inductive IsL (X : Cx) (D a : Addr) (ev : Str) : List Expr → List Bool → Prop
  | nil : IsL X D a ev [] []
  | cons {cn : Str} {b : Bool} {p q r pos : Pos} {es : List Expr} {bs : List Bool} (h : IsAt X D a cn b) (t : IsL X D a ev es bs) : IsL X D a ev (.Call (.Name "isinstance" p) [.Name ev q, .Name cn r] [] pos :: es) (b :: bs)
theorem x_isL {D : Addr} {ev : Str} (c : TT.Cxt) (hi : CallR X (.builtin "isinstance") (rIsE X.K D a)) (hb : Blt X "isinstance" (.builtin "isinstance")) (h0 : X.N[0]? = some ev) (hv : Vis X.env.scope ev) (hn : nm1 ev = true) :
    ∀ {es : List Expr} {bs : List Bool}, IsL X D a ev es bs → PA X es (cXA N X.K T a (TT.evEs c (esB bs)))
  | _, _, .nil => PAw pa_nil fun σ H Q ⟨z, L, e, s, re, rs, o⟩ => o.here rs _ .nil
  | _, _, .cons (b := b) (bs := bs) h t => PAw (pa_cons (x_is (N := N) (T := T) c hi hb h0 hv hn h) (x_isL c hi hb h0 hv hn t) (star1 rfl)) fun σ H Q ⟨z, L, e, s, re, rs, o⟩ => by
    refine ⟨z, L, e, s, re, rs, ?_⟩
    simp only [TT.evE]
    intro L1 H1 p1 z1 v rv
    simp only [esB, TT.evEs, TT.evE, TT.R.bind_ok] at o
    refine ⟨z, L1, e, s, re.pst p1, z1, (Out.bind (o.step p1)).mono (fun ws L2 H2 s2 p2 z2 o2 vs rvs => ?_) fun _ _ x => x⟩
    exact o2.here z2 (v :: vs) (.cons (RepW.pst (w := .d (.bl b)) p2 rv) rvs)
theorem x_lst {es : List Expr} {xs : TT.Es} {pos : Pos} (c : TT.Cxt) (h : PA X es (cXA N X.K T a (TT.evEs c xs))) (hl : xs.len ≤ 1000) : PE X (.List es pos) (cX N X.K T a (TT.evE c (.lst true xs))) :=
  PEw (pe_lst h) fun σ H Q ⟨z, L, e, s, re, rs, o⟩ => by
    simp only [TT.evE] at o
    refine ⟨z, evs_then c re rs o fun ws L1 H1 s1 vs ln p1 re1 rs1 rv o1 => ?_⟩
    cases h2 : TT.asDs ws with
    | none => rw [h2] at o1; exact False.elim o1
    | some ds =>
      rw [h2] at o1
      simp only [TT.R.of_some, TT.R.bind_ok] at o1
      have rd := asDs_rep rv h2
      exact ⟨by rw [rv.len, ln, sizeLine_eq]; omega, fun p hp => fin_fl' rs1 o1 rd hp⟩
theorem x_add {e1 e2 : Expr} {x y : TT.E} {pos : Pos} (c : TT.Cxt) (h1 : PE X e1 (cX N X.K T a (TT.evE c x))) (h2 : PE X e2 (cX N X.K T a (TT.evE c y))) : PE X (.BinOp e1 .Add e2 pos) (cX N X.K T a (TT.evE c (.op true .add (.cons x (.cons y .nil))))) := by
  rw [ev_op2]
  obtain ⟨r, ho, hr⟩ := snd_add (N := N) (X := X) (T := T)
  refine PEw (pe_op ho h1 h2) fun σ H Q ⟨z, q⟩ => ?_
  obtain ⟨L, e, s, re, rs, o⟩ := q
  exact ⟨z, cE_then re rs o fun w L1 H1 s1 v p1 re1 rs1 rv o1 => ⟨z, cE_then re1 rs1 o1 fun u L2 H2 s2 y p2 re2 rs2 ru o2 => hr true L2 H2 s2 v y w u Q _ rs2 (rv.pst p2) ru o2⟩⟩
/-! ### statements -/
def cXS (N : Nm) (K : PySem.W.Frag) (T : List (Addr × Str)) (a : Addr) (F : Nat → TT.Env → Sto → TT.R FE) : TS := fun D σ H => has0 a σ ∧ cS N K T Wx0 F { D with nx := fun σ' H' => has0 a σ' → D.nx σ' H' } σ H
theorem xs_asg {c : TT.Cxt} {x : TT.E} {i : Nat} {y : Str} {e : Expr} {p pos : Pos} (hN : X.N.Nodup) (h : PE X e (cX N X.K T a (TT.evE c x))) (ht : TgNm X y (i + 1)) (hs : noComp e = true) :
    PS X (.Assign [.Name y p] e pos) (cXS N X.K T a fun n => TT.evS c n (.asg (.nm (i + 1)) x)) :=
  PSw (ps_set hN ht.at_ ht.loc h (swaps_no hs) ht.own) fun D σ H ⟨z, q⟩ => by
    have := asg_then (t := .nm (i + 1)) _ σ H q
    refine ⟨z, cE_mono this fun v H1 h1 => h1 ?_⟩
    show (σ.set (i + 1) (some v))[0]? = _
    rw [List.getElem?_set_ne (by omega)]
    exact z
theorem xs_ret {c : TT.Cxt} {x : TT.E} {e : Expr} {pos : Pos} (h : PE X e (cX N X.K T a (TT.evE c x))) : PS X (.Return (some e) pos) (cXS N X.K T a fun n => TT.evS c n (.ret x)) :=
  PSw (ps_ret h) fun D σ H ⟨z, L0, H0, L, e, s, p, re, rs, o⟩ => by
    simp only [TT.evS] at o
    exact ⟨z, sE_then p re rs o fun w L' H' s' v p0 p1 re1 rs1 rv o1 => flow_here o1 p0 rs1 v rv⟩
theorem xs_nil {c : TT.Cxt} : PSs X [] (cXS N X.K T a fun n => TT.evSs c n .nil) := PSsw pss_nil fun D σ H ⟨z, L0, H0, L, e, s, p, re, rs, o⟩ => flow_here o p rs σ re z
theorem xs_cons {c : TT.Cxt} {st : Stmt} {sts : List Stmt} {x : TT.S} {xs : TT.Ss} (h : PS X st (cXS N X.K T a fun n => TT.evS c n x)) (t : PSs X sts (cXS N X.K T a fun n => TT.evSs c n xs)) : PSs X (st :: sts) (cXS N X.K T a fun n => TT.evSs c n (.cons x xs)) :=
  PSsw (pss_cons h t) fun D σ H ⟨z, L0, H0, L, e, s, p, re, rs, o⟩ => by
    simp only [TT.evSs] at o
    refine ⟨z, L0, H0, L, e, s, p, re, rs, (Out.bind0 o).mono (fun r L' H' s' p' rs' o' => ?_) fun _ _ h => h⟩
    obtain ⟨fl, e'⟩ := r
    cases fl with
    | nx => exact fun σ' re' z' => ⟨z', L0, H0, L', e', s', p', re', rs', o'⟩
    | cnt => exact flow_here (Wx := Wx0) o' p' rs'
    | brk => exact flow_here (Wx := Wx0) o' p' rs'
    | ret w => exact flow_here (Wx := Wx0) o' p' rs'
theorem xs_ite {c : TT.Cxt} {x : TT.E} {e : Expr} {pos : Pos} {sa sb : List Stmt} {ya yb : TT.Ss} (h : PT X e (cXT N X.K T a (asT (TT.evE c x)))) (ha : PSs X sa (cXS N X.K T a fun n => TT.evSs c n ya)) (hb : PSs X sb (cXS N X.K T a fun n => TT.evSs c n yb)) :
    PS X (.If e sa sb pos) (cXS N X.K T a fun n => TT.evS c n (.ite x ya yb)) := PSw (ps_if h ha hb) fun D σ H ⟨z, L0, H0, L, e, s, p, re, rs, o⟩ => by
  simp only [TT.evS] at o
  rw [asT_bind (k := fun b s => if b then TT.evSs c L0.length ya e s else TT.evSs c L0.length yb e s) fun w s => by
    cases TT.asB w with
    | none => rfl
    | some b => cases b <;> rfl] at o
  refine ⟨z, sT_then p re rs o fun w L' H' s' p0 p1 re1 rs1 o1 => ?_⟩
  cases w with
  | true => exact ⟨z, L0, H0, L', e, s', p0, re1, rs1, o1⟩
  | false => exact ⟨z, L0, H0, L', e, s', p0, re1, rs1, o1⟩
end
end TS

set_option maxRecDepth 100000
set_option maxHeartbeats 4000000
/-! The asking def and the one that tells the word: from their texts. -/
namespace TS
open PySem PySem.Spec PyProof.Rows L2 L2H
/-- what the text of the telling def says -/
structure WD where
  m : Str
  n : Str
  c1 : List Str
  c2 : List Str
  c3 : List Str
  c4 : List Str
  v : Str
  oth : Str
  s1 : List Str
  s2 : List Str
  deriving DecidableEq
def clsL (ev : Str) : List Expr → Option (List Str)
  | [] => some []
  | .Call (.Name i _) [.Name e _, .Name c _] [] _ :: r => if i = "isinstance" ∧ e = ev then (clsL ev r).map (c :: ·) else none
  | _ => none
def strL : List Expr → Option (List Str)
  | [] => some []
  | .Constant (.str x) _ _ :: r => (strL r).map (x :: ·)
  | _ => none
def isSum (m : Str) : Stmt → Option (List Expr)
  | .Assign [.Name m1 _] (.BinOp (.Name m2 _) .Add (.List l _) _) _ => if m1 = m ∧ m2 = m then some l else none
  | _ => none
def isSet : Stmt → Option (Str × List Expr)
  | .Assign [.Name m _] (.List l _) _ => some (m, l)
  | _ => none
def isMeth (m f : Str) : Expr → Bool
  | .Call (.Attribute (.Name x _) g ap) [.Constant (.bool true) _ _] [] cp => decide (x = m) && decide (g = f) && (ap.endLine == cp.line)
  | _ => false
def isEnd (n m : Str) : Stmt → Option (List Expr)
  | .Return (some (.Subscript (.BinOp (.Name x _) .Add (.List l _) _) i _)) _ => if x = n ∧ isMeth m "index" i = true then some l else none
  | _ => none
def isIf (ev m : Str) : Stmt → Option (Str × Str)
  | .If (.BoolOp .Or [.UnaryOp .Not (.Call (.Name i _) [.Name e _, .Name c _] [] _) _, .Compare k [.NotEq] [.Constant (.int 1) _ _] _] _) [.Return (some (.Constant (.str oth) _ _)) _] [] _ => if i = "isinstance" ∧ e = ev ∧ isMeth m "count" k = true then some (c, oth) else none
  | _ => none
def whD (ev : Str) : List Stmt → Option WD
  | [a1, a2, a3, a4, i, b, r] => (isSet a1).bind fun (m, l1) => (clsL ev l1).bind fun c1 => (isSum m a2).bind fun l2 => (clsL ev l2).bind fun c2 => (isSum m a3).bind fun l3 => (clsL ev l3).bind fun c3 => (isSum m a4).bind fun l4 => (clsL ev l4).bind fun c4 =>
      (isIf ev m i).bind fun (v, oth) => (isSet b).bind fun (n, l5) => (strL l5).bind fun s1 => (isEnd n m r).bind fun l6 => (strL l6).bind fun s2 => some ⟨m, n, c1, c2, c3, c4, v, oth, s1, s2⟩
  | _ => none
/-- .. in the small language, for an error of which isinstance says b -/
def wB (d : WD) (b : Str → Bool) : TT.Ss :=
  .cons (.asg (.nm 1) (.lst true (esB (d.c1.map b)))) (.cons (.asg (.nm 1) (.op true .add (.cons (.v 1) (.cons (.lst true (esB (d.c2.map b))) .nil)))) (.cons (.asg (.nm 1) (.op true .add (.cons (.v 1) (.cons (.lst true (esB (d.c3.map b))) .nil)))) (.cons (.asg (.nm 1) (.op true .add (.cons (.v 1) (.cons (.lst true (esB (d.c4.map b))) .nil))))
    (.cons (.ite (.bop false (.cons (.not (.k (.bl (b d.v)))) (.cons (.op true .ne (.cons (.bm true .count (.v 1) (.cons (.k (.bl true)) .nil)) (.cons (.k (.int 1)) .nil))) .nil))) (.cons (.ret (.k (.str d.oth))) .nil) .nil)
      (.cons (.asg (.nm 2) (.lst true (esS d.s1))) (.cons (.ret (.op true .ix (.cons (.op true .add (.cons (.v 2) (.cons (.lst true (esS d.s2)) .nil))) (.cons (.bm true .index (.v 1) (.cons (.k (.bl true)) .nil)) .nil)))) .nil))))))
section
variable {N : Nm} {X : Cx} {T : List (Addr × Str)} {a D : Addr}
theorem cls_isL {ev : Str} {b : Str → Bool} : ∀ {es : List Expr} {cs : List Str}, clsL ev es = some cs → (∀ c ∈ cs, IsAt X D a c (b c)) → IsL X D a ev es (cs.map b)
  | [], cs, h, _ => by
    simp only [clsL, Option.some.injEq] at h
    subst h
    exact .nil
  | e :: es, cs, h, q => by
    unfold clsL at h
    split at h
    · rename_i heq
      cases heq
    · rename_i heq
      cases heq
      split at h
      · rename_i z
        obtain ⟨rfl, rfl⟩ := z
        rw [Option.map_eq_some_iff] at h
        obtain ⟨r, h1, rfl⟩ := h
        exact .cons (q _ (by simp)) (cls_isL h1 fun c hc => q c (by simp [hc]))
      · cases h
    · cases h
theorem str_es {Wx : WX} (c : TT.Cxt) : ∀ {es : List Expr} {ss : List Str}, strL es = some ss → PA X es (cA N X.K T Wx (TT.evEs c (esS ss)))
  | [], ss, h => by
    simp only [strL, Option.some.injEq] at h
    subst h
    exact pa_n c
  | e :: es, ss, h => by
    unfold strL at h
    split at h
    · rename_i heq
      cases heq
    · rename_i heq
      cases heq
      rw [Option.map_eq_some_iff] at h
      obtain ⟨r, h1, rfl⟩ := h
      exact pa_c c (pe_k (.str _) c) (str_es c h1) rfl
    · cases h
theorem len_esB : ∀ l : List Bool, (esB l).len = l.length
  | [] => rfl
  | b :: r => by simp [esB, TT.Es.len, len_esB r]
theorem len_esS : ∀ l : List Str, (esS l).len = l.length
  | [] => rfl
  | b :: r => by simp [esS, TT.Es.len, len_esS r]
theorem isMeth_ok {m f : Str} {e : Expr} (h : isMeth m f e = true) : ∃ p ap k q cp, e = .Call (.Attribute (.Name m p) f ap) [.Constant (.bool true) k q] [] cp ∧ (ap.endLine == cp.line) = true := by
  unfold isMeth at h
  split at h
  · simp only [Bool.and_eq_true, decide_eq_true_eq] at h
    obtain ⟨⟨rfl, rfl⟩, h⟩ := h
    exact ⟨_, _, _, _, _, rfl, h⟩
  · cases h
/-- small: the lists are short -/
def WD.ok (d : WD) : Bool := nm1 d.m && nm1 d.n && decide (d.c1.length ≤ 100) && decide (d.c2.length ≤ 100) && decide (d.c3.length ≤ 100) && decide (d.c4.length ≤ 100) && decide (d.s1.length ≤ 100) && decide (d.s2.length ≤ 100)
theorem asB1 {r : TT.R W} : ((r.bind fun x s => (TT.R.of (TT.asB x) s).bind fun b s => .ok (.d (.bl b)) s).bind fun w s => TT.R.of (TT.asB w) s) = r.bind fun w s => TT.R.of (TT.asB w) s := by
  cases r with
  | ok x s =>
    simp only [TT.R.bind_ok]
    cases TT.asB x <;> rfl
  | err _ _ => rfl
  | no => rfl
theorem asB_bl (b : Bool) : TT.asB (.d (.bl b)) = some b := rfl
theorem pt_is {e : Expr} {bb : Bool} (c : TT.Cxt) (h : PE X e (cX N X.K T a (TT.evE c (.k (.bl bb))))) (hp : plainTest e = true) : PT X e (cXT N X.K T a (asT (TT.evE c (.k (.bl bb))))) :=
  PTw (pt_val h (test_plain hp)) fun σ H Q ⟨z, L, e, s, re, rs, o⟩ => ⟨z, L, e, s, re, rs, by
    simp only [asT, TT.evE, TT.R.bind_ok, asB_bl, TT.R.of_some] at o ⊢
    exact fun L1 H1 p1 z1 v rv => ⟨bb, RepD.bl_inv rv, o L1 H1 p1 z1⟩⟩
theorem pt_or {e1 e2 : Expr} {bb : Bool} {y : TT.E} {p1 p2 : Pos} (c : TT.Cxt) (h1 : PT X e1 (cXT N X.K T a (asT (TT.evE c (.k (.bl bb)))))) (h2 : PT X e2 (cXT N X.K T a (asT (TT.evE c y)))) :
    PT X (.BoolOp .Or [.UnaryOp .Not e1 p1, e2] p2) (cXT N X.K T a (asT (TT.evE c (.bop false (.cons (.not (.k (.bl bb))) (.cons y .nil)))))) :=
  PTw (pw_or (pt_not h1) (pw_or1 h2)).pt fun σ H Q ⟨z, L, e, s, re, rs, o⟩ => by
    refine ⟨z, L, e, s, re, rs, ?_⟩
    simp only [asT, TT.evE, TT.evB, TT.R.bind_ok, asB_bl, TT.R.of_some] at o ⊢
    intro L1 H1 q1 z1
    cases bb with
    | false => exact o L1 H1 q1 z1
    | true =>
      simp only [Bool.not_true, Bool.false_eq_true, if_false, if_true] at o ⊢
      refine ⟨z, L1, e, s, re.pst q1, z1, ?_⟩
      have o' := o.step q1
      rw [asB1] at o'
      exact o'
theorem which_body {ev : Str} {body : List Stmt} {d : WD} {b : Str → Bool} (c : TT.Cxt) (hd : whD ev body = some d) (ok : d.ok = true) (nd : X.N.Nodup) (h0 : X.N[0]? = some ev) (hv : Vis X.env.scope ev) (hn : nm1 ev = true) (hm : TgNm X d.m 1) (hnn : TgNm X d.n 2) (vm : Vis X.env.scope d.m) (vn : Vis X.env.scope d.n)
    (hu : X.A.units + 64 < cLine) (hu1 : X.A.units + 65 < cLine) (hb : Blt X "isinstance" (.builtin "isinstance")) (hi : CallR X (.builtin "isinstance") (rIsE X.K D a)) (q : ∀ cn ∈ d.v :: (d.c1 ++ d.c2 ++ d.c3 ++ d.c4), IsAt X D a cn (b cn)) : PSs X body (cXS N X.K T a fun n => TT.evSs c n (wB d b)) := by
  unfold whD at hd
  split at hd
  · rename_i a1 a2 a3 a4 i bb r
    simp only [Option.bind_eq_some_iff, Prod.exists] at hd
    obtain ⟨m, l1, e1, c1, f1, l2, e2, c2, f2, l3, e3, c3, f3, l4, e4, c4, f4, v, oth, e5, n, l5, e6, s1, f5, l6, e7, s2, f6, ed⟩ := hd
    cases ed
    unfold WD.ok at ok
    simp only [Bool.and_eq_true, decide_eq_true_eq] at ok
    obtain ⟨⟨⟨⟨⟨⟨⟨o1, o2⟩, o3⟩, o4⟩, o5⟩, o6⟩, o7⟩, o8⟩ := ok
    simp only [] at q hm hnn vm vn
    have pm : ∀ p, PE X (.Name m p) (cE N X.K T Wx0 (TT.evE c (.v 1))) := fun p => pe_v hm.at_ vm (nm_of o1).1 (nm_of o1).2 c
    have pn : ∀ p, PE X (.Name n p) (cE N X.K T Wx0 (TT.evE c (.v 2))) := fun p => pe_v hnn.at_ vn (nm_of o2).1 (nm_of o2).2 c
    have lst : ∀ {l : List Expr} {cs : List Str} {p : Pos}, clsL ev l = some cs → (∀ cn ∈ cs, IsAt X D a cn (b cn)) → cs.length ≤ 100 → PE X (.List l p) (cX N X.K T a (TT.evE c (.lst true (esB (cs.map b))))) := fun h1 h2 h3 =>
      x_lst c (x_isL c hi hb h0 hv hn (cls_isL h1 h2)) (by rw [len_esB, List.length_map]; omega)
    have sum : ∀ {st : Stmt} {l : List Expr} {cs : List Str}, isSum m st = some l → clsL ev l = some cs → (∀ cn ∈ cs, IsAt X D a cn (b cn)) → cs.length ≤ 100 → PS X st (cXS N X.K T a fun n => TT.evS c n (.asg (.nm 1) (.op true .add (.cons (.v 1) (.cons (.lst true (esB (cs.map b))) .nil))))) := by
      intro st l cs h1 h2 h3 h4
      unfold isSum at h1
      split at h1
      · split at h1
        · rename_i z
          obtain ⟨rfl, rfl⟩ := z
          cases h1
          exact xs_asg nd (x_add c (x_e (pm _)) (lst h2 h3 h4)) hm rfl
        · cases h1
      · cases h1
    have g1 : ∀ cn ∈ c1, IsAt X D a cn (b cn) := fun cn h => q cn (by simp [h])
    have g2 : ∀ cn ∈ c2, IsAt X D a cn (b cn) := fun cn h => q cn (by simp [h])
    have g3 : ∀ cn ∈ c3, IsAt X D a cn (b cn) := fun cn h => q cn (by simp [h])
    have g4 : ∀ cn ∈ c4, IsAt X D a cn (b cn) := fun cn h => q cn (by simp [h])
    refine xs_cons ?_ (xs_cons (sum e2 f2 g2 o4) (xs_cons (sum e3 f3 g3 o5) (xs_cons (sum e4 f4 g4 o6) (xs_cons ?_ (xs_cons ?_ (xs_cons ?_ xs_nil))))))
    · unfold isSet at e1
      split at e1
      · simp only [Option.some.injEq, Prod.mk.injEq] at e1
        obtain ⟨rfl, rfl⟩ := e1
        exact xs_asg nd (lst f1 g1 o3) hm rfl
      · cases e1
    · unfold isIf at e5
      split at e5
      · split at e5
        · rename_i z
          obtain ⟨rfl, rfl, z⟩ := z
          simp only [Option.some.injEq, Prod.mk.injEq] at e5
          obtain ⟨rfl, rfl⟩ := e5
          obtain ⟨p, ap, k, qq, cp, rfl, hl⟩ := isMeth_ok z
          refine xs_ite ?_ (xs_cons (xs_ret (x_e (pe_k (.str _) c))) xs_nil) xs_nil
          refine pt_or c (pt_is c (x_is c hi hb h0 hv hn (q _ List.mem_cons_self)) rfl) (x_t ?_)
          rw [ev_op2]
          exact pt_cp (snd_ne hu) (pe_cnt c (pm _) (pa_c c (pe_k (.bl true) c) (pa_n c) rfl) rfl hl rfl) (pe_k (.int 1) c) rfl
        · cases e5
      · cases e5
    · unfold isSet at e6
      split at e6
      · simp only [Option.some.injEq, Prod.mk.injEq] at e6
        obtain ⟨rfl, rfl⟩ := e6
        exact xs_asg nd (x_e (pe_ls c (str_es c f5) (by rw [len_esS]; exact Nat.le_trans o7 (by decide)))) hnn rfl
      · cases e6
    · unfold isEnd at e7
      split at e7
      · split at e7
        · rename_i z
          obtain ⟨rfl, z⟩ := z
          cases e7
          obtain ⟨p, ap, k, qq, cp, rfl, hl⟩ := isMeth_ok z
          refine xs_ret (x_e ?_)
          rw [ev_op2]
          refine pe_item snd_ix ?_ (pe_idx c hu1 (pm _) (pa_c c (pe_k (.bl true) c) (pa_n c) rfl) rfl hl rfl) rfl
          rw [ev_op2]
          exact pe_bin snd_add (pn _) (pe_ls c (str_es c f6) (by rw [len_esS]; exact Nat.le_trans o8 (by decide)))
        · cases e7
      · cases e7
  · cases hd
end
/-! ### the telling def, run -/
def spW (T : List (Addr × Str)) (a : Addr) (z : Str) : Sp := fun vs H Q _ => vs = [.ref a] ∧ LamX.Tabs T H ∧ ∀ H', LamX.ExtN H H' → LamX.Tabs T H' → Q (.str z) H'
abbrev cxt0 : TT.Cxt := ⟨⟨[], [], [], []⟩, fun _ _ _ _ => .no⟩
/-- what isinstance says, by the module -/
structure IsG (K : PySem.W.Frag) (mg : Str → Option Value) (sc : Scope) (D : Addr) (cn : Str) (b : Bool) : Prop where
  gl : glB sc cn = true
  db : nm1 cn = true
  cl : (∃ C : Addr, mg cn = some (.ref C) ∧ PySem.W.kitOne K (.ref D) (.ref C) = some b) ∨ (∃ q : String, mg cn = none ∧ bootBuiltins cn = some (.type q) ∧ cn ≠ "__name__" ∧ PySem.W.kitOne K (.ref D) (.type q) = some b)
theorem gl_of {X : Cx} {sc : Scope} {x : Str} (e : X.env.scope = sc) (h : glB sc x = true) : Gl X x := by
  unfold glB at h
  split at h
  · rename_i q
    show X.env.scope.names.lookup x = _
    rw [e]; exact q
  · cases h
theorem which_run {P : Program} {w : World} {K : PySem.W.Frag} {mg : Str → Option Value} {base : Heap} {N : Nm} {T : List (Addr × Str)} {d : He.DefD} {ev z : Str} {wd : WD} {b : Str → Bool} {f D : Addr} {fd : FuncData} {dvs : List L2.V} {kws : List (Str × L2.V)} {p : Addr × Obj} {k : Nat} {e' : TT.Env} {s' : Sto}
    (Fd : FunD K d.name d.qual d.params d.body d.scope dvs kws f fd) (hd : whD ev d.body = some wd) (ok : wd.ok = true) (sc : C8.scC [ev, wd.m, wd.n] [ev] d.scope = true) (l0 : visB d.scope ev = true) (l1 : d.scope.names.lookup wd.m = some .local) (l2 : d.scope.names.lookup wd.n = some .local) (hn : nm1 ev = true)
    (g0 : glB d.scope "isinstance" = true) (m0 : mg "isinstance" = none) (is : ∀ cn ∈ wd.v :: (wd.c1 ++ wd.c2 ++ wd.c3 ++ wd.c4), IsG K mg d.scope D cn (b cn)) (C : ExcC K D) (hz : Zc (.ref D) none p.2) (hf : ∃ vs, p.2.data = .fields vs)
    (run : TT.evSs cxt0 0 (wB wd b) [none, none, none] [] = .ok (.ret (.d (.str z)), e') s') : HotRun P w K mg base (k + 1) f fd [ev] p (spW T p.1 z) := by
  have SC := C8.fnScope_by sc
  obtain ⟨oc, od, dV, kV, doc, pm, an, cdv, ct, osl, rfl, lk, hcd, _, _⟩ := Fd.ex
  refine hot_of lk hcd SC (fun vs H Q E h => by rw [h.1]; rfl) fun A outer s H vs Q E room ⟨hvs, ht, hq⟩ => ?_
  subst hvs
  let X : Cx := (cxH C8.CX0 P w K mg base [ev, wd.m, wd.n] d.qual d.scope f cdv A outer s H E p).nox
  have hu : X.A.units + 64 < cLine := by
    have := room.un
    show (A.deeper _).units + 64 < cLine
    omega
  have hu1 : X.A.units + 65 < cLine := by
    have := room.un
    show (A.deeper _).units + 65 < cLine
    omega
  have bi : Blt X "isinstance" (.builtin "isinstance") := ⟨gl_of rfl g0, m0, rfl, by decide, by decide⟩
  have ism : ∀ cn ∈ wd.v :: (wd.c1 ++ wd.c2 ++ wd.c3 ++ wd.c4), IsAt X D p.1 cn (b cn) := fun cn h => ⟨gl_of rfl (is cn h).gl, (nm_of (is cn h).db).1, (is cn h).cl⟩
  have body := which_body (N := N) (X := X) (T := T) (a := p.1) cxt0 hd ok SC.nd rfl (vis_of l0) hn ⟨rfl, .inl l1, .inl rfl⟩ ⟨rfl, .inl l2, .inl rfl⟩ (.inl l1) (.inl l2) hu hu1 bi (call_isP (X := X) (List.mem_cons_self) C hz hf) ism
  refine ⟨_, body, rfl, [], H, [], [none, none, none], [], Pst.refl _ _, ⟨rfl, fun i u h => ?_⟩, ⟨rfl, fun l k a h => by simp at h, fun a h => by simp at h, fun l m h => by simp at h, ht⟩, ?_⟩
  · match i, h with
    | 0, h => simp at h
    | 1, h => simp at h
    | 2, h => simp at h
    | (i + 3), h => simp at h
  · show Out N K T [] H _ _ (TT.evSs cxt0 0 (wB wd b) [none, none, none] [])
    rw [run]
    intro L' H' ps rs v rv
    have ev' := RepD.str_inv rv
    subst ev'
    exact hq H' (fun c o h q => ps.fr c o h (by simp) q) rs.tabs
/-! ### the asking def -/
def askD : List Stmt → Option (Str × Str × Str × Str)
  | [.Try [.Return (some (.Call (.Name a _) [] [] _)) _] [.ExceptHandler (some (.Name x _)) (some e) [.Return (some (.Call (.Name wn _) [.Name e2 _] [] _)) _] _] [] [] _] => if e2 = e then some (a, x, e, wn) else none
  | _ => none
theorem asked_gives {X : Cx} {N : Nm} {T : List (Addr × Str)} {ws : List (Nat × Str)} {bg : List Stmt} {a xh e wn x : Str} {q : Str} {sg : Scope} {g CS fW : Addr} {cdg : Value} {fdW : FuncData} {ev : Str} {k : Nat} (hb : askD bg = some (a, xh, e, wn)) (nd : [a, e].Nodup)
    (hl : sg.names.lookup e = some .local) (kd : sg.kind = .function) (ge : glB sg xh = true) (nx : nm1 xh = true) (mx : X.mg xh = some (.ref CS)) (gw : glB sg wn = true) (nw : nm1 wn = true) (ne : nm1 e = true) (mw : X.mg wn = some (.ref fW)) (kw : PySem.W.keepIn X.K (.ref fW) = true) (bw : Binds X.K fdW [ev] [])
    (exm : ∀ y z, ws.lookup y = some z → PySem.W.exmOne X.K (.ref (N.ea X.K y)) (.ref CS) = some true)
    (run : ∀ y z, ws.lookup y = some z → ∀ p : Addr × Obj, Zc (.ref (N.ea X.K y)) none p.2 → (∃ vs, p.2.data = .fields vs) → HotRun X.prog X.w X.K X.mg X.base k fW fdW [ev] p (spW T p.1 z))
    (rm : ∀ (s : Shared) (hd : Option Value), RoomH k ((X.A.deeper (envOfC x sg s.heap.objs.size g cdg)).mark hd)) : LamX.GivesTo X [a, e] x sg g cdg bg a q (TTask N X.K T ws) := by
  intro f c' s H Q tl act hc h
  unfold askD at hb
  split at hb
  · rename_i a1 q1 q2 q3 x1 q4 e1 wn1 q5 e2 q6 q7 q8 q9 q10
    split at hb
    · rename_i ee
      subst ee
      simp only [Option.some.injEq, Prod.mk.injEq] at hb
      obtain ⟨rfl, rfl, rfl, rfl⟩ := hb
      let Z : Cx := (cxOf C8.CX0 X.prog X.w X.K X.mg X.base [a1, e2] x sg g cdg X.A X.stack s H C8.E0).nox
      refine ⟨_, pss_one (ps_try_as (X := Z) (c := .ref CS) (i := 1) (Wout := fun _ _ _ _ => False)
        (tb := fun W D σ H => ∃ Ech : XK, (∀ cls d σ' H', Ech cls d H' → W cls d σ' H') ∧ σ[0]? = some (some (.ref f)) ∧ H c' = some (LamX.CodeO c' q) ∧ tl Ech H D.rt)
        (ts := fun a cls d D σ H => (∃ σ0 : L2.St, σ = σ0.set 1 (some (.ref a))) ∧ ∃ y z, cls = .ref (N.ea X.K y) ∧ d = none ∧ ws.lookup y = some z ∧ LamX.Tabs T H ∧ ∀ H2, LamX.ExtN H H2 → LamX.Tabs T H2 → D.rt (.str z) H2)
        rfl rfl nd rfl hl ⟨gl_of rfl ge, (nm_of nx).1, .inl mx⟩ LamX.takes0 (fun W pn xe tk _ => ?_) (fun a oe cls d pn hz hf => ?_)), ?_⟩
      · refine ⟨fun pins s' σ H' D I h' => ?_⟩
        obtain ⟨Ech, hW, h1, h2, h3⟩ := h'
        exact (pss_one (ps_ret (act W pn xe Ech _ _ tk hW))).run pins s' σ H' D I ⟨h1, h2, h3⟩
      · refine ⟨fun pins s' σ H' D I h' => ?_⟩
        obtain ⟨⟨σ0, rfl⟩, y, z, rfl, rfl, hw, ht, hq⟩ := h'
        have h0 : (σ0.set 1 (some (V.ref a)))[1]? = some (some (V.ref a)) := by
          have ln := I.len
          rw [List.length_set] at ln
          have l2 : σ0.length = 2 := ln
          rw [List.getElem?_set_self (by omega)]
        have F := run y z hw (a, oe) hz hf
        have pe := pe_hot (X := Z.suite a ((a, oe) :: pn)) (q := q5) (pos := q7) F (rm s _) List.mem_cons_self (gl_of rfl gw) mw kw bw (pa_cons (pe_var (X := Z.suite a ((a, oe) :: pn)) (i := 1) (pos := q6) rfl (.inl hl) (nm_of ne).1 (nm_of ne).2) pa_nil (star1 rfl)) (nm_of nw).1 rfl
        exact (pss_one (ps_ret pe)).run pins s' _ H' D I ⟨_, h0, rfl, ht, hq⟩
      · refine ⟨fun cls d H' => _, fun cls d σ' H' hh => ?_, rfl, hc, h⟩
        obtain ⟨y, z, rfl, rfl, hw, ht, hq⟩ := hh
        refine ⟨true, exm y z hw, fun _ a _ => ⟨⟨σ', rfl⟩, y, z, rfl, rfl, hw, ht, hq⟩, fun z => by cases z⟩
    · cases hb
  · cases hb
end TS

set_option maxRecDepth 100000
set_option maxHeartbeats 4000000
/-! The asking def: from the head's facts. -/
namespace TS
open PySem PySem.Spec PyProof.Rows L2 L2H
theorem excC_of {K : PySem.W.Frag} {D : Addr} (h : excCB K D = true) : ExcC K D := by
  unfold excCB at h
  simp only [Bool.and_eq_true, decide_eq_true_eq] at h
  obtain ⟨h1, h2, h3, h4, h5, h6, h7, h8⟩ := h
  exact ⟨He.eqO_ok h1, He.eqO_ok h2, h3, h4, He.eqO_ok h5, He.eqO_ok h6, h7, h8⟩
def runB (S : Sig) (wd : WD) (p : Nat × Str) : Bool := match TT.evSs cxt0 0 (wB wd (bOf S p.1)) [none, none, none] [] with
  | .ok (.ret w, _) _ => decide (w = .d (.str p.2))
  | _ => false
structure AskP (S : Sig) (dA dW : He.DefD) (a e ev : Str) (wd : WD) : Prop where
  hA : askD dA.body = some (a, ("HandError" : Str), e, ("_law_which" : Str))
  atA : dA.at_ = (S.asked, none)
  nmA : dA.name = S.asked ∧ dA.qual = S.asked
  scA : C8.scC [a, e] [a] dA.scope = true
  le : dA.scope.names.lookup e = some .local
  va : visB dA.scope a = true
  na : nm1 a = true
  ne : nm1 e = true
  gx : glB dA.scope "HandError" = true
  gw : glB dA.scope "_law_which" = true
  pA : plainArgs dA.params [a] = true
  atW : dW.at_ = (("_law_which" : Str), none)
  hW : whD ev dW.body = some wd
  pW : plainArgs dW.params [ev] = true
  ok : wd.ok = true
  scW : C8.scC [ev, wd.m, wd.n] [ev] dW.scope = true
  vev : visB dW.scope ev = true
  lm : dW.scope.names.lookup wd.m = some .local
  ln : dW.scope.names.lookup wd.n = some .local
  nev : nm1 ev = true
  gi : glB dW.scope "isinstance" = true
  vv : wd.v = "ValueError"
  gv : glB dW.scope "ValueError" = true
  cls : ((wd.c1 ++ wd.c2 ++ wd.c3 ++ wd.c4).all fun cn => glB dW.scope cn && nm1 cn && !decide (cn = "ValueError") && S.P.words.any fun q => decide (S.N.es[q.1]? = some cn)) = true
  run : (S.P.words.all fun p => runB S wd p) = true
  dfl : dA.dfl = [] ∧ dA.kwd = [] ∧ dW.dfl = [] ∧ dW.kwd = []
  es : ((("HandError" : Str)) ∈ S.N.es)
  nx : nm1 "HandError" = true ∧ nm1 "_law_which" = true
theorem ask_of {S : Sig} {P : Program} {w : World} {K : PySem.W.Frag} {mg : Str → Option Value} {base h : Heap} {T : List (Addr × Str)} {dA dW : He.DefD} {a e ev : Str} {wd : WD} (A : AskP S dA dW a e ev wd) (X : K.In h) (G : h.Ns mainGlobals mg) (bf : BaseF S K mg)
    (fa : ∀ f ∈ [He.Fa.glo S.asked, .glo "_law_which", .free "isinstance", .free "ValueError"], f.ok K = true) (ex : excsB S "HandError" K = true) (FA : ∃ fd, FunD K dA.name dA.qual dA.params dA.body dA.scope (dA.dvs K) (dA.kws K) (He.fAd K dA.at_) fd)
    (FW : ∃ fd, FunD K dW.name dW.qual dW.params dW.body dW.scope (dW.dvs K) (dW.kws K) (He.fAd K dW.at_) fd) : AskOk S.N P w K mg base T S.P.words S.asked := by
  obtain ⟨fdA, FA⟩ := FA
  obtain ⟨fdW, FW⟩ := FW
  obtain ⟨d1, d2, d3, d4⟩ := A.dfl
  have e1 : dA.dvs K = [] := by unfold He.DefD.dvs; rw [d1]; rfl
  have e2 : dA.kws K = [] := by unfold He.DefD.kws; rw [d2]; rfl
  have e3 : dW.dvs K = [] := by unfold He.DefD.dvs; rw [d3]; rfl
  have e4 : dW.kws K = [] := by unfold He.DefD.kws; rw [d4]; rfl
  rw [e1, e2] at FA
  rw [e3, e4] at FW
  have scA := C8.fnScope_by A.scA
  have scW := C8.fnScope_by A.scW
  have bA := FA.bindsN (ps := [a]) fun kV doc pm an cdv ct us hl => bind_plain A.pA (by simp) hl
  have bW := FW.bindsN (ps := [ev]) fun kV doc pm an cdv ct us hl => bind_plain A.pW (by simp) hl
  have mA : mg S.asked = some (.ref (He.fAd K dA.at_)) := by rw [A.atA]; exact He.glo_ok X G (fa _ (by simp))
  have mW : mg "_law_which" = some (.ref (He.fAd K dW.at_)) := by rw [A.atW]; exact He.glo_ok X G (fa _ (by simp))
  have mI : mg "isinstance" = none := He.free_ok X G (fa _ (by simp))
  have mV : mg "ValueError" = none := He.free_ok X G (fa _ (by simp))
  obtain ⟨ih, hh⟩ := List.mem_iff_getElem?.mp A.es
  have eH : S.N.ea K ih = He.ga K "HandError" := by
    unfold Nm.ea Nm.en
    rw [nmAt_get hh]
  have mH := (bf.exc ih _ hh).1
  rw [eH] at mH
  have exs : ∀ p ∈ S.P.words, _ := fun p hp => List.all_eq_true.mp ex p hp
  simp only [Bool.and_eq_true, decide_eq_true_eq, List.all_eq_true] at exs
  have cls := List.all_eq_true.mp A.cls
  have runs := List.all_eq_true.mp A.run
  have ka := FA.kp
  have hA := A.hA
  obtain ⟨nm, ql⟩ := A.nmA
  obtain ⟨oc, od, dV, kV, doc, pm, an, cdv, ct, osl, rfl, lk, hcd, _, _⟩ := FA.ex
  rw [nm, ql] at lk bA
  rw [ql] at hcd
  refine ⟨a, _, _, _, _, dV, kV, doc, pm, cdv, ct, oc, an, od, osl, [a, e], mA, ka, lk, hcd, bA, scA, rfl, vis_of A.va, (nm_of A.na).1, (nm_of A.na).2, fun Y q h1 h2 h3 h4 h5 room => ?_⟩
  subst h1 h2 h3 h4 h5
  refine asked_gives (k := 1) A.hA scA.nd A.le scA.kind A.gx A.nx.1 mH A.gw A.nx.2 A.ne mW FW.kp bW (fun y z hw => (exs _ (lookup_mem hw)).2.2.2) (fun y z hw p hz hf => ?_) fun s hd => ?_
  · have ey := exs _ (lookup_mem hw)
    have ru := runs _ (lookup_mem hw)
    unfold runB at ru
    split at ru
    · rename_i w1 e1 s1 er
      have ew := of_decide_eq_true ru
      subst ew
      refine which_run (N := S.N) FW A.hW A.ok A.scW A.vev A.lm A.ln A.nev A.gi mI (b := bOf S y) (fun cn hc => ?_) (excC_of ey.1) hz hf er
      rcases List.mem_cons.mp hc with rfl | hc
      · refine ⟨by rw [A.vv]; exact A.gv, by rw [A.vv]; decide, .inr ⟨"ValueError", by rw [A.vv]; exact mV, by rw [A.vv]; rfl, by rw [A.vv]; decide, ?_⟩⟩
        rw [ey.2.2.1]
        simp [bOf, A.vv]
      · have c1 := cls cn hc
        simp only [Bool.and_eq_true, Bool.not_eq_true', decide_eq_false_iff_not, List.any_eq_true, decide_eq_true_eq] at c1
        obtain ⟨⟨⟨g1, g2⟩, g3⟩, ⟨q1, q2, q3⟩⟩ := c1
        refine ⟨g1, g2, .inl ⟨S.N.ea Y.K q1.1, (bf.exc q1.1 cn q3).1, ?_⟩⟩
        rw [ey.2.1 q1 q2]
        have en : S.N.en q1.1 = cn := nmAt_get q3
        rw [en]
        simp [bOf, g3]
    · cases ru
  · have := room.dp
    have := room.un
    refine ⟨?_, ?_⟩
    · show Y.A.depth + 1 + 3 * 1 + 5 < _
      omega
    · show Y.A.units + 3 + 16 * 1 + 200 < _
      omega
theorem base_of {S : Sig} {ds : List DefS} {li : Nat} {x : Str} {w : World} {K : PySem.W.Frag} {mg : Str → Option Value} {h : Heap} {more : List He.Fa} {defs : List He.DefD} {tf : List He.Defn} {ex : PySem.W.Frag → Bool} (pl : Plan S ds li x) (KX : K.In h) (G : h.Ns mainGlobals mg)
    (c : He.SaysX (.glo "law" :: (S.facts ++ more)) (ds.map (·.d) ++ defs) [] tf ex w h K) (nw : nwB S K = true) : BaseF S K mg := by
  have cd := c.t.d
  refine base_f pl.ok nw KX G (fun f hf => cd.facts (List.mem_cons_of_mem _ (List.mem_append_left _ hf))) fun n p e => ?_
  rw [pl.ats, List.getElem?_map] at e
  cases h1 : ds[n]? with
  | none => rw [h1] at e; cases e
  | some d =>
    rw [h1] at e
    cases e
    obtain ⟨fd, F⟩ := cd.defs (d := d.d) (List.mem_append_left _ (List.mem_map.mpr ⟨d, List.mem_of_getElem? h1, rfl⟩))
    exact F.kp
/-- the law asks by the asking def -/
theorem asks {S : Sig} {ds : List DefS} {li : Nat} {x : Str} {P : Program} {w : World} {K : PySem.W.Frag} {mg : Str → Option Value} {h : Heap} {tf : List He.Defn} {ex : PySem.W.Frag → Bool} {T : List (Addr × Str)} {dA dW : He.DefD} {a e ev : Str} {wd : WD} (pl : Plan S ds li x) (A : AskP S dA dW a e ev wd) (KX : K.In h) (G : h.Ns mainGlobals mg)
    (c : He.SaysX (.glo "law" :: (S.facts ++ [He.Fa.glo S.asked, .glo "_law_which", .free "isinstance", .free "ValueError"])) (ds.map (·.d) ++ [dA, dW]) [] tf ex w h K) (hex : ex K = true → excsB S "HandError" K = true) (hnw : ex K = true → nwB S K = true) (base : Heap) : AskOk S.N P w K mg base T S.P.words S.asked := by
  have cd := c.t.d
  exact ask_of A KX G (base_of pl KX G c (hnw c.more)) (fun f hf => cd.facts (List.mem_cons_of_mem _ (List.mem_append_right _ hf))) (hex c.more) (cd.defs (List.mem_append_right _ (by simp))) (cd.defs (List.mem_append_right _ (by simp)))
end TS

set_option maxHeartbeats 0
namespace G
open PySem PySem.Spec PyProof.Rows L2 TS
def wd : WD := ⟨("_law_marks" : Str), ("_law_names" : Str), [("NoBook" : Str), ("NoTree" : Str), ("NoPlace" : Str), ("NoReader" : Str)], [("Unlike" : Str), ("TooGreat" : Str), ("NoGuesser" : Str)], [("NoPattern" : Str), ("NoNumber" : Str), ("NoTurner" : Str)], [("NoText" : Str), ("NoLine" : Str), ("NoName" : Str), ("Nothing" : Str)], ("ValueError" : Str), ("other" : Str), [("book" : Str), ("tree" : Str), ("place" : Str), ("reader" : Str), ("unlike" : Str), ("great" : Str), ("guesser" : Str), ("pattern" : Str), ("number" : Str), ("turner" : Str)], [("text" : Str), ("line" : Str), ("name" : Str), ("nothing" : Str)]⟩
theorem askP : AskP sig dA dW ("_law_call" : Str) ("_law_e" : Str) ("_law_e" : Str) wd := ⟨by decide +kernel, by decide +kernel, ⟨by decide +kernel, by decide +kernel⟩, by decide +kernel, by decide +kernel, by decide +kernel, by decide +kernel, by decide +kernel, by decide +kernel, by decide +kernel, by decide +kernel, by decide +kernel, by decide +kernel, by decide +kernel, by decide +kernel, by decide +kernel, by decide +kernel, by decide +kernel, by decide +kernel, by decide +kernel, by decide +kernel, by decide +kernel, by decide +kernel, by decide +kernel, by decide +kernel, ⟨rfl, rfl, rfl, rfl⟩, by decide +kernel, ⟨by decide +kernel, by decide +kernel⟩⟩
theorem plan : Plan sig ds li "_law_script" := ⟨by decide +kernel, by decide +kernel, by decide +kernel, by decide +kernel, by decide +kernel, by decide +kernel⟩
theorem ex_ok {K : PySem.W.Frag} (h : ex K = true) : exT ds K = true := (Bool.and_eq_true_iff.mp h).1
theorem nw_ok {K : PySem.W.Frag} (h : ex K = true) : nwB sig K = true := (Bool.and_eq_true_iff.mp (Bool.and_eq_true_iff.mp h).2).1
theorem ask_ok {w : World} {K : PySem.W.Frag} {mg : Str → Option Value} {h : Heap} (KX : K.In h) (G0 : h.Ns mainGlobals mg) (c : He.SaysX fa fn [] (tfOf ds) ex w h K) : (∀ e ∈ ds, e.lam = false) ∨ ∀ base : Heap, K.In base → base.Ns mainGlobals mg → AskOk sig.N (PySem.Challenge.rw_treehands_k50_whole_again_and_behind).prog w K mg base (tabT ds K) sig.P.words sig.asked :=
  .inr fun base _ _ => asks plan askP KX G0 c (fun h => (Bool.and_eq_true_iff.mp (Bool.and_eq_true_iff.mp h).2).2) nw_ok base
end G

/-! loops -/
namespace TT
section
variable {c : Cxt} {n : Nat} {tg : Tg} {kill : List Nat} {body : Ss} {g : Its} {α : Type}
theorem forG_rng (E : Int → Env) (S : Int → Sto) {i m : Int} (hi : i ≤ m) (h : ∀ j r, i ≤ j → j < m → forG c n tg kill body g (.int j :: r) (E j) (S j) = forG c n tg kill body g r (E (j + 1)) (S (j + 1))) :
    forG c n tg kill body g (rngD i m) (E i) (S i) = forG c n tg kill body g [] (E m) (S m) := by
  obtain ⟨d, hd⟩ : ∃ d : Nat, m = i + d := ⟨(m - i).toNat, by omega⟩
  induction d generalizing i with
  | zero =>
    have : m = i := by omega
    subst this
    rw [rngD_nil (by omega)]
  | succ d ih =>
    rw [rngD_cons (by omega), h i _ (by omega) (by omega)]
    exact ih (by omega) (fun j r h1 h2 => h j r (by omega) h2) (by omega)
theorem forG_map (enc : α → D) (E : List α → Env) (S : List α → Sto) (xs : List α) (h : ∀ p x q r, xs = p ++ x :: q → forG c n tg kill body g (enc x :: r) (E p) (S p) = forG c n tg kill body g r (E (p ++ [x])) (S (p ++ [x]))) :
    forG c n tg kill body g (xs.map enc) (E []) (S []) = forG c n tg kill body g [] (E xs) (S xs) := by
  have go : ∀ (q p : List α), xs = p ++ q → forG c n tg kill body g (q.map enc) (E p) (S p) = forG c n tg kill body g [] (E xs) (S xs) := by
    intro q
    induction q with
    | nil => intro p e; rw [e]; simp
    | cons x q ih =>
      intro p e
      rw [List.map_cons, h p x q _ e]
      exact ih (p ++ [x]) (by rw [e]; simp)
  exact go xs [] rfl
variable {ifs : Es} {elt : E} {e : Env} {s : Sto}
theorem lcG_map (enc : α → D) (f : α → List D) (xs : List α) (hl : (xs.map f).flatten.length ≤ 10000) (h : ∀ x ∈ xs, ∀ acc r, acc.length ≤ 10000 → lcG c tg ifs elt e g n (enc x :: r) (s ++ [.lst acc]) = lcG c tg ifs elt e g n r (s ++ [.lst (acc ++ f x)])) :
    lcG c tg ifs elt e g n (xs.map enc) (s ++ [.lst []]) = lcG c tg ifs elt e g n [] (s ++ [.lst (xs.map f).flatten]) := by
  have go : ∀ (q : List α) (acc : List D), acc.length + (q.map f).flatten.length ≤ 10000 → (∀ x ∈ q, x ∈ xs) → lcG c tg ifs elt e g n (q.map enc) (s ++ [.lst acc]) = lcG c tg ifs elt e g n [] (s ++ [.lst (acc ++ (q.map f).flatten)]) := by
    intro q
    induction q with
    | nil => intro acc _ _; simp
    | cons x q ih =>
      intro acc hl hm
      simp only [List.map_cons, List.flatten_cons, List.length_append] at hl ⊢
      rw [h x (hm x (by simp)) acc _ (by omega), ih _ (by simp only [List.length_append]; omega) fun y hy => hm y (by simp [hy])]
      simp
  have := go xs [] (by simpa using hl) fun _ h => h
  simpa using this
theorem sing_len (f : α → D) (xs : List α) : ((xs.map fun x => [f x]).flatten) = xs.map f := by
  induction xs with
  | nil => rfl
  | cons x l ih => simp only [List.map_cons, List.flatten_cons, ih]; rfl
theorem lcG_map1 (enc : α → D) (f : α → D) (xs : List α) (hl : xs.length ≤ 10000) (h : ∀ x ∈ xs, ∀ acc r, sm acc.length = true → lcG c tg ifs elt e g n (enc x :: r) (s ++ [.lst acc]) = lcG c tg ifs elt e g n r (s ++ [.lst (acc ++ [f x])])) :
    lcG c tg ifs elt e g n (xs.map enc) (s ++ [.lst []]) = lcG c tg ifs elt e g n [] (s ++ [.lst (xs.map f)]) := by
  have := lcG_map (c := c) (n := n) (tg := tg) (g := g) (ifs := ifs) (elt := elt) (e := e) (s := s) enc (fun x => [f x]) xs (by rw [sing_len]; simpa using hl) fun x hx acc r ha => h x hx acc r (sm_of ha)
  rw [sing_len] at this
  exact this
theorem filt_eq (p : α → Bool) (f : α → D) (xs : List α) : ((xs.map fun x => if p x then [f x] else []).flatten) = (xs.filter p).map f := by
  induction xs with
  | nil => rfl
  | cons x l ih =>
    simp only [List.map_cons, List.flatten_cons, ih, List.filter_cons]
    split <;> simp
theorem lcG_filt (enc : α → D) (p : α → Bool) (f : α → D) (xs : List α) (hl : xs.length ≤ 10000) (h : ∀ x ∈ xs, ∀ acc r, sm acc.length = true → lcG c tg ifs elt e g n (enc x :: r) (s ++ [.lst acc]) = lcG c tg ifs elt e g n r (s ++ [.lst (if p x then acc ++ [f x] else acc)])) :
    lcG c tg ifs elt e g n (xs.map enc) (s ++ [.lst []]) = lcG c tg ifs elt e g n [] (s ++ [.lst ((xs.filter p).map f)]) := by
  have := lcG_map (c := c) (n := n) (tg := tg) (g := g) (ifs := ifs) (elt := elt) (e := e) (s := s) enc (fun x => if p x then [f x] else []) xs (by rw [filt_eq]; simp; exact Nat.le_trans (List.length_filter_le _ _) hl) fun x hx acc r ha => by
    rw [h x hx acc r (sm_of ha)]; split <;> simp
  rw [filt_eq] at this
  exact this
theorem rngD_nat (m : Nat) : rngD 0 m = (List.range m).map fun (i : Nat) => D.int i := by
  unfold rngD
  simp
end
/-! ### dicts -/
section
variable {α β : Type} [DecidableEq α]
theorem look_none {k : α} : ∀ {ks : List α} {vs : List β}, ks.length = vs.length → (look k ks vs = none ↔ k ∉ ks)
  | [], [], _ => by simp [look]
  | a :: ks, b :: vs, h => by
    simp only [List.length_cons, Nat.add_right_cancel_iff] at h
    simp only [look, List.mem_cons, not_or]
    split
    · rename_i q; simp [q]
    · rename_i q; rw [look_none h]; simp [show k ≠ a from fun e => q e.symm]
  | [], _ :: _, h => by simp at h
  | _ :: _, [], h => by simp at h
theorem look_app {k k' : α} {v : β} : ∀ {ks : List α} {vs : List β}, ks.length = vs.length → look k (ks ++ [k']) (vs ++ [v]) = if k ∈ ks then look k ks vs else if k' = k then some v else none
  | [], [], _ => by simp [look]
  | a :: ks, b :: vs, h => by
    simp only [List.length_cons, Nat.add_right_cancel_iff] at h
    simp only [List.cons_append, look, List.mem_cons]
    split
    · rename_i q; simp [q]
    · rename_i q; rw [look_app h]; simp [show k ≠ a from fun e => q e.symm]
  | [], _ :: _, h => by simp at h
  | _ :: _, [], h => by simp at h
theorem rep_len {k : α} {v : β} : ∀ {ks : List α} {vs : List β}, ks.length = vs.length → (repVs k v ks vs).length = ks.length
  | [], [], _ => rfl
  | a :: ks, b :: vs, h => by
    simp only [List.length_cons, Nat.add_right_cancel_iff] at h
    simp [repVs, rep_len h]
  | [], _ :: _, h => by simp at h
  | _ :: _, [], h => by simp at h
theorem look_rep {k k' : α} {v : β} : ∀ {ks : List α} {vs : List β}, ks.length = vs.length → look k ks (repVs k' v ks vs) = if k = k' ∧ k ∈ ks then some v else look k ks vs
  | [], [], _ => by simp [look]
  | a :: ks, b :: vs, h => by
    simp only [List.length_cons, Nat.add_right_cancel_iff] at h
    simp only [repVs, look, List.mem_cons]
    split
    · rename_i q
      subst q
      by_cases q : a = k' <;> simp [q]
    · rename_i q
      rw [look_rep h]
      have : k ≠ a := fun e => q e.symm
      simp [this]
  | [], _ :: _, h => by simp at h
  | _ :: _, [], h => by simp at h
/-- a dict holds what f says -/
structure DictIs (ks : List α) (vs : List β) (f : α → Option β) : Prop where
  len : ks.length = vs.length
  get : ∀ k, look k ks vs = f k
theorem DictIs.nil : DictIs ([] : List α) ([] : List β) fun _ => none := ⟨rfl, fun _ => rfl⟩
theorem DictIs.mem {ks : List α} {vs : List β} {f : α → Option β} (h : DictIs ks vs f) (k : α) : k ∈ ks ↔ f k ≠ none := by
  rw [← h.get, Ne, look_none h.len]; simp
theorem DictIs.put {ks : List α} {vs : List β} {f : α → Option β} (h : DictIs ks vs f) (k : α) (v : β) : DictIs (putKs k ks) (putVs k v ks vs) fun k' => if k = k' then some v else f k' := by
  unfold putKs putVs
  by_cases q : k ∈ ks
  · rw [if_pos q, if_pos q]
    refine ⟨by rw [rep_len h.len], fun k' => ?_⟩
    rw [look_rep h.len, h.get]
    by_cases q' : k = k'
    · subst q'; simp [q]
    · simp [q', show k' ≠ k from fun e => q' e.symm]
  · rw [if_neg q, if_neg q]
    refine ⟨by simp [h.len], fun k' => ?_⟩
    rw [look_app h.len, h.get]
    by_cases q' : k = k'
    · subst q'; simp [q]
    · simp only [q', if_false]
      split
      · rfl
      · rename_i q2
        have := h.mem k'
        simp [q2] at this
        exact this.symm
theorem putKs_len (k : α) (ks : List α) : (putKs k ks).length ≤ ks.length + 1 := by
  unfold putKs; split <;> simp
end
@[simp] theorem fair_ii (a b : Int) : fair (.int a) (.int b) = true := by simp [fair, D.pl]
@[simp] theorem fair_ss (a b : PySem.Str) : fair (.str a) (.str b) = true := by simp [fair, D.pl]
@[simp] theorem fair_bb (a b : Bool) : fair (.bl a) (.bl b) = true := by simp [fair, D.pl]
@[simp] theorem fair_in (a : Int) : fair (.int a) .non = true := by simp [fair, D.pl]
@[simp] theorem atI_zero {α : Type} (x : α) (l : List α) : atI (x :: l) 0 = some x := by
  unfold atI ixOf; simp
@[simp] theorem atI_one {α : Type} (x y : α) (l : List α) : atI (x :: y :: l) 1 = some y := by
  unfold atI ixOf
  rw [if_pos (by omega), if_pos (by simp; omega)]
  rfl
theorem cut_mid {α : Type} (a b c : List α) (i j : Int) (hi : i = a.length) (hj : j = a.length + b.length) : cut (a ++ (b ++ c)) (some i) (some j) = b := by
  subst hi hj
  unfold cut sIx
  simp only
  rw [if_neg (by omega), if_neg (by omega)]
  simp only [List.length_append]
  rw [show ((a.length : Int)).toNat = a.length by omega, show ((a.length : Int) + b.length).toNat = a.length + b.length by omega]
  rw [show min a.length (a.length + (b.length + c.length)) = a.length by omega, show min (a.length + b.length) (a.length + (b.length + c.length)) = a.length + b.length by omega]
  rw [List.drop_left, show a.length + b.length - a.length = b.length by omega, List.take_left]
theorem cut_lo {α : Type} (l : List α) (i : Int) (h0 : 0 ≤ i) (h1 : i ≤ l.length) : cut l none (some i) = l.take i.toNat := by
  unfold cut sIx
  simp only
  rw [if_neg (by omega), show min i.toNat l.length = i.toNat by omega]
  simp
theorem cut_hi {α : Type} (l : List α) (i : Int) (h0 : 0 ≤ i) (h1 : i ≤ l.length) : cut l (some i) none = l.drop i.toNat := by
  unfold cut sIx
  simp only
  rw [if_neg (by omega), show min i.toNat l.length = i.toNat by omega]
  exact List.take_of_length_le (by simp)
end TT

/-! plain: trees and their rows -/
namespace TT
/-- trees with things in the places of leaves -/
inductive T (V : Type) where
  | v (x : V) | z (s : Int) | o (s : Int) (a : T V) | t (s : Int) (a b : T V)
abbrev G0 := T Empty
variable {V U : Type}
instance : Inhabited (T V) := ⟨.z 0⟩
/-- is it a tree by such numbers of kids -/
def T.Ok (ks : List Int) : T V → Prop
  | .v _ => True
  | .z s => (0 ≤ s ∧ s < ks.length) ∧ gi ks s = 0
  | .o s a => (0 ≤ s ∧ s < ks.length) ∧ gi ks s = 1 ∧ a.Ok ks
  | .t s a b => (0 ≤ s ∧ s < ks.length) ∧ gi ks s = 2 ∧ a.Ok ks ∧ b.Ok ks
/-- its row -/
def T.row (f : V → D) : T V → List D
  | .v x => [f x]
  | .z s => [.int s]
  | .o s a => .int s :: a.row f
  | .t s a b => .int s :: (a.row f ++ b.row f)
def T.size : T V → Nat
  | .v _ => 1
  | .z _ => 1
  | .o _ a => 1 + a.size
  | .t _ a b => 1 + (a.size + b.size)
def T.height : T V → Nat
  | .v _ => 1
  | .z _ => 1
  | .o _ a => 1 + a.height
  | .t _ a b => 1 + max a.height b.height
theorem T.row_len (f : V → D) (t : T V) : (t.row f).length = t.size := by
  induction t <;> simp_all [T.row, T.size] <;> omega
theorem T.size_pos (t : T V) : 1 ≤ t.size := by cases t <;> simp [T.size] <;> omega
theorem T.height_le (t : T V) : t.height ≤ t.size := by
  induction t <;> simp_all [T.height, T.size] <;> omega
def T.sub (σ : V → T U) : T V → T U
  | .v x => σ x
  | .z s => .z s
  | .o s a => .o s (a.sub σ)
  | .t s a b => .t s (a.sub σ) (b.sub σ)
/-- the numbers of a tree without things -/
def T.nums : G0 → List Int
  | .z s => [s]
  | .o s a => s :: a.nums
  | .t s a b => s :: (a.nums ++ b.nums)
theorem T.nums_len (t : G0) : t.nums.length = t.size := by
  induction t with
  | v x => exact x.elim
  | z s => rfl
  | o s a ih => simp [T.nums, T.size, ih]; omega
  | t s a b iha ihb => simp [T.nums, T.size, iha, ihb]; omega
theorem T.row_nums (f : Empty → D) (t : G0) : t.row f = t.nums.map .int := by
  induction t with
  | v x => exact x.elim
  | z s => rfl
  | o s a ih => simp [T.nums, T.row, ih]
  | t s a b iha ihb => simp [T.nums, T.row, iha, ihb]
/-- a tree as data -/
def tD (t : G0) : D := .tup (t.nums.map .int)
/-! ### where rows end -/
def endOf (ks : List Int) : List Int → Int → Int → Int
  | [], _, _ => -1
  | x :: r, w, p => if 0 ≤ x ∧ x < ks.length then if w + gi ks x - 1 = 0 then p + 1 else endOf ks r (w + gi ks x - 1) (p + 1) else -1
/-- a tree ahead of a row -/
theorem endOf_tree (ks : List Int) (t : G0) (h : t.Ok ks) : ∀ (r : List Int) (w p : Int), 1 ≤ w → endOf ks (t.nums ++ r) w p = if w = 1 then p + t.size else endOf ks r (w - 1) (p + t.size) := by
  induction t with
  | v x => exact x.elim
  | z s =>
    intro r w p hw
    simp only [T.nums, List.cons_append, List.nil_append, endOf, h.1, h.2, and_self, if_true, T.size]
    by_cases q : w = 1
    · simp [q]
    · rw [if_neg q, if_neg (by omega)]; simp
  | o s a ih =>
    intro r w p hw
    simp only [T.nums, List.cons_append, endOf, h.1, h.2.1, and_self, if_true, T.size]
    rw [if_neg (by omega), ih h.2.2 _ _ _ (by omega)]
    by_cases q : w = 1
    · simp [q]; omega
    · rw [if_neg q, if_neg (by omega)]; congr 1 <;> simp <;> omega
  | t s a b iha ihb =>
    intro r w p hw
    simp only [T.nums, List.cons_append, endOf, h.1, h.2.1, and_self, if_true, T.size, List.append_assoc]
    rw [if_neg (by omega), iha h.2.2.1 _ _ _ (by omega), if_neg (by omega), ihb h.2.2.2 _ _ _ (by omega)]
    by_cases q : w = 1
    · simp [q]; omega
    · rw [if_neg q, if_neg (by omega)]; congr 1 <;> simp <;> omega
theorem endOf_self (ks : List Int) (t : G0) (h : t.Ok ks) (r : List Int) (p : Int) : endOf ks (t.nums ++ r) 1 p = p + t.size := by
  rw [endOf_tree ks t h _ _ _ (by omega)]; simp
theorem endOf_le (ks : List Int) : ∀ (r : List Int) (w p : Int), endOf ks r w p = -1 ∨ (p < endOf ks r w p ∧ endOf ks r w p ≤ p + r.length)
  | [], w, p => by simp [endOf]
  | x :: r, w, p => by
    simp only [endOf]
    split
    · split
      · right; simp; omega
      · rcases endOf_le ks r (w + gi ks x - 1) (p + 1) with h | h
        · exact .inl h
        · right; simp; omega
    · exact .inl rfl
/-- the rows of some trees -/
def numsL (ts : List G0) : List Int := (ts.map T.nums).flatten
theorem gi_mem {α : Type} [Inhabited α] {ks : List α} {x : Int} (h0 : 0 ≤ x) (h1 : x < ks.length) : gi ks x ∈ ks := by
  unfold gi
  have : x.toNat < ks.length := by omega
  simp [List.getD, this]
theorem parse_all (ks : List Int) (hk : ∀ k ∈ ks, 0 ≤ k ∧ k ≤ 2) : ∀ (r : List Int) (w p : Int), 1 ≤ w → endOf ks r w p = p + r.length → 0 ≤ p → ∃ ts : List G0, (ts.length : Int) = w ∧ (∀ t ∈ ts, t.Ok ks) ∧ r = numsL ts
  | [], w, p, hw, h, hp => by simp [endOf] at h; omega
  | x :: r, w, p, hw, h, hp => by
    simp only [endOf] at h
    have gm : 0 ≤ x ∧ x < ks.length → gi ks x ∈ ks := fun hx => gi_mem hx.1 hx.2
    split at h
    · rename_i hx
      have hg := hk _ (gm hx)
      split at h
      · rename_i q
        have : r = [] := by cases r with
          | nil => rfl
          | cons y r => simp at h; omega
        subst this
        refine ⟨[.z x], by simp; omega, ?_, rfl⟩
        simp only [List.mem_singleton, forall_eq, T.Ok]
        exact ⟨hx, by omega⟩
      · rename_i q
        obtain ⟨ts, hl, hts, hr⟩ := parse_all ks hk r (w + gi ks x - 1) (p + 1) (by omega) (by rw [h]; simp; omega) (by omega)
        have h0 : gi ks x = 0 ∨ gi ks x = 1 ∨ gi ks x = 2 := by omega
        rcases h0 with h0 | h0 | h0
        · refine ⟨.z x :: ts, by simp; omega, ?_, by simp [numsL, T.nums, hr]⟩
          intro t ht
          rcases List.mem_cons.mp ht with rfl | ht
          · exact ⟨hx, h0⟩
          · exact hts t ht
        · match ts, hl, hts, hr with
          | [], hl, _, _ => simp at hl; omega
          | a :: ts, hl, hts, hr =>
            refine ⟨.o x a :: ts, by simp at hl ⊢; omega, ?_, by simp [numsL, T.nums, hr]⟩
            intro t ht
            rcases List.mem_cons.mp ht with rfl | ht
            · exact ⟨hx, h0, hts a (by simp)⟩
            · exact hts t (by simp [ht])
        · match ts, hl, hts, hr with
          | [], hl, _, _ => simp at hl; omega
          | [a], hl, _, _ => simp at hl; omega
          | a :: b :: ts, hl, hts, hr =>
            refine ⟨.t x a b :: ts, by simp at hl ⊢; omega, ?_, by simp [numsL, T.nums, hr]⟩
            intro t ht
            rcases List.mem_cons.mp ht with rfl | ht
            · exact ⟨hx, h0, hts a (by simp), hts b (by simp)⟩
            · exact hts t (by simp [ht])
    · simp at h; omega
theorem parse_one (ks : List Int) (hk : ∀ k ∈ ks, 0 ≤ k ∧ k ≤ 2) (r : List Int) (h : endOf ks r 1 0 = r.length) : ∃ t : G0, t.Ok ks ∧ r = t.nums := by
  obtain ⟨ts, hl, hts, hr⟩ := parse_all ks hk r 1 0 (by omega) (by omega) (by omega)
  match ts, hl, hts, hr with
  | [t], _, hts, hr => exact ⟨t, hts t (by simp), by simp [hr, numsL]⟩
  | [], hl, _, _ => simp at hl
  | _ :: _ :: _, hl, _, _ => simp at hl; omega
/-- a book -/
structure Bk where
  ns : List PySem.Str
  ks : List Int
  deriving DecidableEq
structure Bk.Ok (b : Bk) : Prop where
  len : b.ns.length = b.ks.length
  two : ∀ k ∈ b.ks, 0 ≤ k ∧ k ≤ 2
  six : b.ks.length ≤ 6
end TT

/-! plain: turners -/
namespace TT
variable {V U : Type}
theorem rngD00 : rngD 0 0 = [] := rngD_nil (by omega)
theorem rngD01 : rngD 0 1 = [.int 0] := by rw [rngD_cons (by omega), rngD_nil (by omega)]
theorem rngD02 : rngD 0 2 = [.int 0, .int 1] := by rw [rngD_cons (by omega), rngD_cons (by omega), rngD_nil (by omega)]; rfl
/-- each thing in a tree -/
def T.All (p : V → Prop) : T V → Prop
  | .v x => p x
  | .z _ => True
  | .o _ a => a.All p
  | .t _ a b => a.All p ∧ b.All p
theorem T.sub_ok {ks : List Int} {σ : V → T U} (m : T V) (h : m.All fun x => (σ x).Ok ks) (hm : m.Ok ks) : (m.sub σ).Ok ks := by
  induction m with
  | v x => exact h
  | z s => exact hm
  | o s a ih => exact ⟨hm.1, hm.2.1, ih h hm.2.2⟩
  | t s a b iha ihb => exact ⟨hm.1, hm.2.1, iha h.1 hm.2.2.1, ihb h.2 hm.2.2.2⟩
theorem T.All.mono {p q : V → Prop} (h : ∀ x, p x → q x) {m : T V} (hm : m.All p) : m.All q := by
  induction m with
  | v x => exact h x hm
  | z s => trivial
  | o s a ih => exact ih hm
  | t s a b iha ihb => exact ⟨iha hm.1, ihb hm.2⟩
theorem T.all_of {p : V → Prop} (h : ∀ x, p x) (m : T V) : m.All p := by
  induction m with
  | v x => exact h x
  | z s => trivial
  | o s a ih => exact ih
  | t s a b iha ihb => exact ⟨iha, ihb⟩
/-- a tuple of a state and a kid -/
def hD (x : Int × Int) : D := .tup [.int x.1, .int x.2]
theorem hD_inj {x y : Int × Int} : hD x = hD y ↔ x = y := by
  simp [hD, Prod.ext_iff]
abbrev Mr := T (Int × Int)
def mD (m : Mr) : D := .tup (m.row hD)
/-- a turner -/
structure Tn where
  bk : Bk
  gl : Bk
  rows : List (List Mr)
def Tn.mr (t : Tn) (st sg : Int) : Mr := gi (gi t.rows st) sg
def Tn.n (t : Tn) : Int := t.rows.length
/-- a made row is right -/
structure MrOk (ks : List Int) (states kids : Int) (m : Mr) : Prop where
  ok : m.Ok ks
  all : m.All fun x => (0 ≤ x.1 ∧ x.1 < states) ∧ (0 ≤ x.2 ∧ x.2 < kids)
structure Tn.Ok (t : Tn) : Prop where
  bk : t.bk.Ok
  gl : t.gl.Ok
  pos : 1 ≤ t.rows.length
  len : ∀ some ∈ t.rows, some.length = t.bk.ks.length
  mr : ∀ st sg : Int, 0 ≤ st → st < t.n → 0 ≤ sg → sg < t.bk.ks.length → MrOk t.gl.ks t.n (gi t.bk.ks sg) (t.mr st sg)
  most : t.rows.length ≤ 4000
  size : ∀ some ∈ t.rows, ∀ m ∈ some, m.size ≤ 5000
/-- a tree turned by a state -/
def turn (mr : Int → Int → Mr) (lv : Int → V → T U) : T V → Int → T U
  | .v x, st => lv st x
  | .z s, st => (mr st s).sub fun _ => default
  | .o s a, st => (mr st s).sub fun h => turn mr lv a h.1
  | .t s a b, st => (mr st s).sub fun h => if h.2 = 0 then turn mr lv a h.1 else turn mr lv b h.1
def Tn.turn (t : Tn) (x : G0) (st : Int) : G0 := TT.turn t.mr (fun _ => Empty.elim) x st
theorem turn_ok {t : Tn} (ht : t.Ok) {lv : Int → V → T U} (hl : ∀ st x, 0 ≤ st → st < t.n → (lv st x).Ok t.gl.ks) (x : T V) : x.Ok t.bk.ks → ∀ st, 0 ≤ st → st < t.n → (turn t.mr lv x st).Ok t.gl.ks := by
  induction x with
  | v x => intro _ st h0 h1; exact hl st x h0 h1
  | z s =>
    intro hx st h0 h1
    have hm := ht.mr st s h0 h1 hx.1.1 hx.1.2
    refine T.sub_ok _ (hm.all.mono fun x h => ?_) hm.ok
    have := hx.2
    omega
  | o s a ih =>
    intro hx st h0 h1
    have hm := ht.mr st s h0 h1 hx.1.1 hx.1.2
    exact T.sub_ok _ (hm.all.mono fun x h => ih hx.2.2 _ h.1.1 h.1.2) hm.ok
  | t s a b iha ihb =>
    intro hx st h0 h1
    have hm := ht.mr st s h0 h1 hx.1.1 hx.1.2
    refine T.sub_ok _ (hm.all.mono fun x h => ?_) hm.ok
    split
    · exact iha hx.2.2.1 _ h.1.1 h.1.2
    · exact ihb hx.2.2.2 _ h.1.1 h.1.2
theorem Tn.turn_ok {t : Tn} (ht : t.Ok) {x : G0} (hx : x.Ok t.bk.ks) {st : Int} (h0 : 0 ≤ st) (h1 : st < t.n) : (t.turn x st).Ok t.gl.ks :=
  TT.turn_ok ht (fun _ x => x.elim) x hx st h0 h1
theorem Tn.row_mem {t : Tn} {st : Int} (h0 : 0 ≤ st) (h1 : st < t.n) : gi t.rows st ∈ t.rows := gi_mem h0 h1
theorem Tn.mr_mem {t : Tn} (ht : t.Ok) {st sg : Int} (h0 : 0 ≤ st) (h1 : st < t.n) (h2 : 0 ≤ sg) (h3 : sg < t.bk.ks.length) : t.mr st sg ∈ gi t.rows st :=
  gi_mem h2 (by rw [ht.len _ (Tn.row_mem h0 h1)]; exact h3)
theorem Tn.mr_size {t : Tn} (ht : t.Ok) {st sg : Int} (h0 : 0 ≤ st) (h1 : st < t.n) (h2 : 0 ≤ sg) (h3 : sg < t.bk.ks.length) : (t.mr st sg).size ≤ 5000 :=
  ht.size _ (Tn.row_mem h0 h1) _ (Tn.mr_mem ht h0 h1 h2 h3)
/-- all that is by each state of a turner -/
def states (n : Int) (f : Int → D) : List D := (List.range n.toNat).map fun (i : Nat) => f i
theorem states_len (n : Int) (f : Int → D) : (states n f).length = n.toNat := by simp [states]
theorem states_succ {n : Int} (h : 0 ≤ n) (f : Int → D) : states (n + 1) f = states n f ++ [f n] := by
  unfold states
  rw [show (n + 1).toNat = n.toNat + 1 by omega, List.range_succ]
  simp [Int.max_eq_left h]
theorem states_zero (f : Int → D) : states 0 f = [] := rfl
/-- the subtrees at all places -/
def T.subs : T V → List (T V)
  | .v x => [.v x]
  | .z s => [.z s]
  | .o s a => .o s a :: a.subs
  | .t s a b => .t s a b :: (a.subs ++ b.subs)
theorem T.subs_len (x : T V) : x.subs.length = x.size := by
  induction x <;> simp_all [T.subs, T.size] <;> omega
theorem T.subs_head (x : T V) : x.subs[0]? = some x := by cases x <;> rfl
/-- what an all-walk of one more kid puts in -/
def given (kd : Int) : Int → List D → (D → Option D) → D → Option D
  | _, [], f => f
  | i, v :: r, f => given kd (i + 1) r fun k => if hD (i, kd) = k then some v else f k
theorem given_at (kd : Int) : ∀ (vals : List D) (i : Int) (f : D → Option D) (x : Int × Int), given kd i vals f (hD x) = if x.2 = kd ∧ i ≤ x.1 ∧ x.1 < i + vals.length then some (gi vals (x.1 - i)) else f (hD x)
  | [], i, f, x => by
    simp only [given, List.length_nil]
    rw [if_neg (by omega)]
  | v :: r, i, f, x => by
    simp only [given]
    rw [given_at kd r (i + 1)]
    simp only [hD_inj, List.length_cons]
    obtain ⟨a, b⟩ := x
    simp only [Prod.mk.injEq]
    by_cases h : b = kd
    · subst h
      by_cases h2 : i = a
      · subst h2
        rw [if_neg (by omega), if_pos (by simp), if_pos (by omega)]
        simp [gi]
      · by_cases h3 : i + 1 ≤ a ∧ a < i + 1 + r.length
        · rw [if_pos (by omega), if_pos (by omega)]
          unfold gi
          rw [show (a - i).toNat = (a - (i + 1)).toNat + 1 by omega]
          simp
        · rw [if_neg (by omega), if_neg (by simp [h2]), if_neg (by omega)]
    · rw [if_neg (by simp [h]), if_neg (by intro q; exact h q.2.symm), if_neg (by simp [h])]
theorem gi_states {n i : Int} (h0 : 0 ≤ i) (h1 : i < n) (f : Int → D) : gi (states n f) i = f i := by
  unfold gi states
  have : i.toNat < n.toNat := by omega
  simp [List.getD, this]
  congr 1
  omega
/-- .. of all kids -/
def given2 : Int → List (List D) → (D → Option D) → D → Option D
  | _, [], f => f
  | j, v :: r, f => given2 (j + 1) r (given j 0 v f)
theorem given2_at : ∀ (kss : List (List D)) (j : Int) (f : D → Option D) (x : Int × Int), given2 j kss f (hD x) = if j ≤ x.2 ∧ x.2 < j + kss.length ∧ 0 ≤ x.1 ∧ x.1 < (gi kss (x.2 - j)).length then some (gi (gi kss (x.2 - j)) x.1) else f (hD x)
  | [], j, f, x => by
    simp only [given2, List.length_nil]
    rw [if_neg (by omega)]
  | v :: r, j, f, x => by
    simp only [given2]
    rw [given2_at r (j + 1), given_at]
    obtain ⟨a, b⟩ := x
    simp only [List.length_cons]
    by_cases h : b = j
    · subst h
      rw [if_neg (by omega)]
      simp only [true_and, gi, Int.sub_self, Int.toNat_zero, List.getD_cons_zero, Int.zero_add, Int.sub_zero]
      by_cases h3 : 0 ≤ a ∧ a < v.length
      · rw [if_pos h3, if_pos (by simp; omega)]
      · rw [if_neg h3, if_neg (by simp; omega)]
    · have e : j < b → gi (v :: r) (b - j) = gi r (b - (j + 1)) := by
        intro hj
        unfold gi
        rw [show (b - j).toNat = (b - (j + 1)).toNat + 1 by omega]
        simp
      by_cases h2 : j < b
      · rw [e h2]
        by_cases h3 : j + 1 ≤ b ∧ b < j + 1 + r.length ∧ 0 ≤ a ∧ a < (gi r (b - (j + 1))).length
        · rw [if_pos h3, if_pos (by omega)]
        · rw [if_neg h3, if_neg (by simp [h]), if_neg (by omega)]
      · rw [if_neg (by omega), if_neg (by simp [h]), if_neg (by omega)]
end TT

/-! plain: books -/
namespace TT
open PySem (Str)
theorem pl_strs (b : Bool) (n : Nat) (l : List Str) : Ds.pl b n (l.map .str) = true := by
  induction l with
  | nil => cases n <;> rfl
  | cons x l ih => cases n <;> simp_all [Ds.pl, D.pl]
theorem pl_ints (n : Nat) (l : List Int) : Ds.pl false n (l.map .int) = true := by
  induction l with
  | nil => cases n <;> rfl
  | cons x l ih => cases n <;> simp_all [Ds.pl, D.pl]
theorem fair_strs (a b : List Str) : fair (.lst (a.map .str)) (.lst (b.map .str)) = true := by
  simp [fair, D.pl, pl_strs]
theorem fair_ints (a b : List Int) : fair (.lst (a.map .int)) (.lst (b.map .int)) = true := by
  simp [fair, D.pl, pl_ints]
theorem fair_tups (a b : List Int) : fair (.tup (a.map .int)) (.tup (b.map .int)) = true := by
  simp [fair, D.pl, pl_ints]
theorem map_str_inj {a b : List Str} : a.map D.str = b.map D.str ↔ a = b := ⟨fun h => by
  have := List.map_inj_right (f := D.str) (fun _ _ h => by injection h) |>.mp h
  exact this, fun h => by rw [h]⟩
theorem map_int_inj {a b : List Int} : a.map D.int = b.map D.int ↔ a = b := ⟨fun h => by
  have := List.map_inj_right (f := D.int) (fun _ _ h => by injection h) |>.mp h
  exact this, fun h => by rw [h]⟩
theorem pyIn_str (x : Str) (l : List Str) : pyIn (.str x) (l.map .str) = some (decide (x ∈ l)) := by
  unfold pyIn
  rw [if_pos (by simp [D.pl, pl_strs])]
  congr 1
  simp
theorem pyIn_int (x : Int) (l : List Int) : pyIn (.int x) (l.map .int) = some (decide (x ∈ l)) := by
  unfold pyIn
  rw [if_pos (by simp [D.pl, pl_ints])]
  congr 1
  simp
def LET : Str := "abcdefghijklmnopqrstuvwxyz"
theorem LET_list : LET.cps.toList = List.range' 97 26 := by decide +kernel
theorem LET_mem (c : Nat) : c ∈ LET.cps.toList ↔ 97 ≤ c ∧ c < 123 := by
  rw [LET_list, List.mem_range'_1]
/-- a name of a sign -/
structure NameOk (z : Str) : Prop where
  pos : 1 ≤ z.length
  most : z.length ≤ 3
  lt : ∀ c ∈ z.cps.toList, 97 ≤ c ∧ c < 123
abbrev Sg := List (Str × Int)
/-- a list of signs that is a book -/
structure Sg.Ok (sg : Sg) : Prop where
  pos : 1 ≤ sg.length
  six : sg.length ≤ 6
  name : ∀ p ∈ sg, NameOk p.1
  nd : (sg.map (·.1)).Nodup
  kid : ∀ p ∈ sg, 0 ≤ p.2 ∧ p.2 ≤ 2
  leaf : ∃ p ∈ sg, p.2 = 0
def Sg.bk (sg : Sg) : Bk := ⟨sg.map (·.1), sg.map (·.2)⟩
def Sg.d (sg : Sg) : D := .lst (sg.map fun p => .tup [.str p.1, .int p.2])
theorem Sg.Ok.bk {sg : Sg} (h : sg.Ok) : sg.bk.Ok := ⟨by simp [Sg.bk], by
  intro k hk
  obtain ⟨p, hp, rfl⟩ := List.mem_map.mp hk
  exact h.kid p hp, by simp [Sg.bk]; exact h.six⟩
theorem bls_map {α : Type} (f : α → Bool) (l : List α) : bls (l.map fun x => .bl (f x)) = some (l.map f) := by
  induction l with
  | nil => rfl
  | cons x l ih => simp [bls, ih]
theorem dInts_map (l : List Int) : dInts (l.map .int) = some l := by
  induction l with
  | nil => rfl
  | cons x l ih => simp [dInts, ih]
/-- turned so many times; none where one is too great -/
def agn (f : G0 → G0) : Nat → G0 → Option G0
  | 0, x => some x
  | n + 1, x => if (f x).size ≤ 200 then agn f n (f x) else none
end TT

/-! plain: drawn trees, made rows and books -/
namespace TT
open PySem (Str)
variable {V : Type}
/-- of trees of such numbers of kids -/
structure Cl (ks : List Int) (Q : T V → Prop) : Prop where
  z : ∀ s : Int, 0 ≤ s → s < ks.length → gi ks s = 0 → Q (.z s)
  o : ∀ (s : Int) a, 0 ≤ s → s < ks.length → gi ks s = 1 → Q a → Q (.o s a)
  t : ∀ (s : Int) a b, 0 ≤ s → s < ks.length → gi ks s = 2 → Q a → Q b → Q (.t s a b)
/-- some row that lacks so many trees -/
def PreT (f : V → D) (Q : T V → Prop) (row : List D) (w : Nat) : Prop := ∀ ts : List (T V), ts.length = w → (∀ t ∈ ts, Q t) → ∃ t, Q t ∧ t.row f = row ++ (ts.map (T.row f)).flatten
theorem PreT.start (f : V → D) (Q : T V → Prop) : PreT f Q [] 1 := by
  intro ts hl hq
  match ts, hl with
  | [t], _ => exact ⟨t, hq t (by simp), by simp⟩
theorem PreT.fin {f : V → D} {Q : T V → Prop} {row : List D} (h : PreT f Q row 0) : ∃ t, Q t ∧ t.row f = row := by
  obtain ⟨t, h1, h2⟩ := h [] rfl (by simp)
  exact ⟨t, h1, by simpa using h2⟩
theorem PreT.hole {f : V → D} {Q : T V → Prop} {row : List D} {w : Nat} (h : PreT f Q row (w + 1)) {x : V} (hx : Q (.v x)) : PreT f Q (row ++ [f x]) w := by
  intro ts hl hq
  obtain ⟨t, h1, h2⟩ := h (.v x :: ts) (by simp [hl]) (by simpa using ⟨hx, hq⟩)
  exact ⟨t, h1, by simpa [T.row] using h2⟩
theorem PreT.sign {f : V → D} {Q : T V → Prop} {ks : List Int} (cl : Cl ks Q) (hk : ∀ k ∈ ks, 0 ≤ k ∧ k ≤ 2) {row : List D} {w : Nat} (h : PreT f Q row (w + 1)) {s : Int} (h0 : 0 ≤ s) (h1 : s < ks.length) : PreT f Q (row ++ [.int s]) (w + (gi ks s).toNat) := by
  intro ts hl hq
  have hg := hk _ (gi_mem h0 h1)
  have : gi ks s = 0 ∨ gi ks s = 1 ∨ gi ks s = 2 := by omega
  rcases this with e | e | e
  · rw [e] at hl
    obtain ⟨t, h2, h3⟩ := h (.z s :: ts) (by simp at hl ⊢; exact hl) (by simpa using ⟨cl.z s h0 h1 e, hq⟩)
    exact ⟨t, h2, by simpa [T.row] using h3⟩
  · rw [e] at hl
    match ts, hl, hq with
    | a :: ts, hl, hq =>
      obtain ⟨t, h2, h3⟩ := h (.o s a :: ts) (by simp at hl ⊢; omega) (by
        intro x hx
        rcases List.mem_cons.mp hx with rfl | hx
        · exact cl.o s a h0 h1 e (hq a (by simp))
        · exact hq x (by simp [hx]))
      exact ⟨t, h2, by simpa [T.row] using h3⟩
    | [], hl, _ => simp at hl
  · rw [e] at hl
    match ts, hl, hq with
    | a :: b :: ts, hl, hq =>
      obtain ⟨t, h2, h3⟩ := h (.t s a b :: ts) (by simp at hl ⊢; omega) (by
        intro x hx
        rcases List.mem_cons.mp hx with rfl | hx
        · exact cl.t s a b h0 h1 e (hq a (by simp)) (hq b (by simp))
        · exact hq x (by simp [hx]))
      exact ⟨t, h2, by simpa [T.row] using h3⟩
    | [], hl, _ => simp at hl
    | [a], hl, _ => simp at hl
theorem cl_ok (ks : List Int) : Cl ks (fun t : G0 => t.Ok ks) := ⟨fun s a b c => ⟨⟨a, b⟩, c⟩, fun s x a b c d => ⟨⟨a, b⟩, c, d⟩, fun s x y a b c d e => ⟨⟨a, b⟩, c, d, e⟩⟩
theorem cl_mr (ks : List Int) (n kd : Int) : Cl ks (MrOk ks n kd) := ⟨fun s a b c => ⟨⟨⟨a, b⟩, c⟩, trivial⟩, fun s x a b c d => ⟨⟨⟨a, b⟩, c, d.ok⟩, d.all⟩, fun s x y a b c d e => ⟨⟨⟨a, b⟩, c, d.ok, e.ok⟩, d.all, e.all⟩⟩
/-- numbers of kids that a book may have -/
structure KsOk (ks : List Int) : Prop where
  two : ∀ k ∈ ks, 0 ≤ k ∧ k ≤ 2
  leaf : ∃ i : Int, 0 ≤ i ∧ i < ks.length ∧ gi ks i = 0
  most : ks.length ≤ 6
/-- the first letter -/
def hc (z : Str) : Nat := z.cps.toList.headD 0
/-- a drawn list of signs -/
structure Sg.Dr (sg : Sg) : Prop where
  two : 2 ≤ sg.length
  six : sg.length ≤ 6
  name : ∀ p ∈ sg, 1 ≤ p.1.length ∧ p.1.length ≤ 2 ∧ ∀ c ∈ p.1.cps.toList, 97 ≤ c ∧ c < 123
  nd : (sg.map fun p => hc p.1).Nodup
  noz : ∀ p ∈ sg, hc p.1 ≠ 122
  kid : ∀ p ∈ sg, 0 ≤ p.2 ∧ p.2 ≤ 2
  leaf : ∃ p ∈ sg, p.2 = 0
def Sg.ks (sg : Sg) : List Int := sg.map (·.2)
theorem nodup_of_map {α β : Type} (f : α → β) {l : List α} (h : (l.map f).Nodup) : l.Nodup := by
  induction l with
  | nil => simp
  | cons x l ih =>
    rw [List.map_cons, List.nodup_cons] at h
    rw [List.nodup_cons]
    exact ⟨fun q => h.1 (List.mem_map.mpr ⟨x, q, rfl⟩), ih h.2⟩
theorem Sg.Dr.ok {sg : Sg} (h : sg.Dr) : sg.Ok := ⟨by have := h.two; omega, h.six, fun p hp => by
  obtain ⟨a, b, c⟩ := h.name p hp
  exact ⟨a, by omega, c⟩, by
  refine nodup_of_map hc ?_
  rw [List.map_map]
  exact h.nd, h.kid, h.leaf⟩
theorem Sg.Ok.ks {sg : Sg} (h : sg.Ok) : KsOk sg.ks := ⟨fun k hk => by
  obtain ⟨p, hp, rfl⟩ := List.mem_map.mp hk
  exact h.kid p hp, by
  obtain ⟨p, hp, hz⟩ := h.leaf
  obtain ⟨i, hi, he⟩ := List.mem_iff_getElem.mp hp
  refine ⟨i, by omega, by simp [Sg.ks]; exact hi, ?_⟩
  simp [gi, Sg.ks, hi, he, hz], by simp [Sg.ks]; exact h.six⟩
theorem Sg.bk_ks (sg : Sg) : sg.bk.ks = sg.ks := rfl
end TT

/-! plain: drawn signs -/
namespace TT
open PySem (Str)
theorem hc_noz (x : Int) (h0 : 0 ≤ x) (h1 : x < 24) : (7 * x + 13) % 26 ≠ 25 := by
  have : ∀ y : Fin 24, (7 * (y.1 : Int) + 13) % 26 ≠ 25 := by decide
  have := this ⟨x.toNat, by omega⟩
  rwa [show ((x.toNat : Nat) : Int) = x by omega] at this
theorem hc_inj (x z : Int) (h0 : 0 ≤ x) (h1 : x < 24) (g0 : 0 ≤ z) (g1 : z < 24) (h : (7 * x + 13) % 26 = (7 * z + 13) % 26) : x = z := by
  have : ∀ y w : Fin 24, (7 * (y.1 : Int) + 13) % 26 = (7 * (w.1 : Int) + 13) % 26 → y = w := by decide
  have := this ⟨x.toNat, by omega⟩ ⟨z.toNat, by omega⟩
  simp only [show ((x.toNat : Nat) : Int) = x by omega, show ((z.toNat : Nat) : Int) = z by omega, Fin.mk.injEq] at this
  have := this h
  omega
/-- a drawn sign -/
structure DrAt (leaf : Int) (i : Int) (x : Str × Int) : Prop where
  hd : ∃ e : Int, 0 ≤ e ∧ e < 4 ∧ (hc x.1 : Int) = 97 + (7 * (4 * i + e) + 13) % 26
  name : 1 ≤ x.1.length ∧ x.1.length ≤ 2 ∧ ∀ c ∈ x.1.cps.toList, 97 ≤ c ∧ c < 123
  kid : 0 ≤ x.2 ∧ x.2 ≤ 2
  leaf : i = leaf → x.2 = 0
theorem sg_dr (sg : Sg) (leaf : Int) (h2 : 2 ≤ sg.length) (h6 : sg.length ≤ 6) (l0 : 0 ≤ leaf) (l1 : leaf < sg.length) (h : ∀ (i : Nat) (x : Str × Int), sg[i]? = some x → DrAt leaf i x) : sg.Dr := by
  have mem : ∀ x ∈ sg, ∃ i : Nat, i < sg.length ∧ sg[i]? = some x := by
    intro x hx
    obtain ⟨i, hi⟩ := List.getElem?_of_mem hx
    exact ⟨i, (List.getElem?_eq_some_iff.mp hi).1, hi⟩
  refine ⟨h2, h6, ?_, ?_, ?_, ?_, ?_⟩
  · intro x hx
    obtain ⟨i, _, hi⟩ := mem x hx
    exact (h i x hi).name
  · rw [List.Nodup, List.pairwise_iff_getElem]
    intro i j hi hj hij
    rw [List.length_map] at hi hj
    simp only [List.getElem_map]
    have e1 : sg[i]? = some sg[i] := List.getElem?_eq_getElem (by omega)
    have e2 : sg[j]? = some sg[j] := List.getElem?_eq_getElem (by omega)
    obtain ⟨a, a0, a1, a2⟩ := (h i _ e1).hd
    obtain ⟨b, b0, b1, b2⟩ := (h j _ e2).hd
    intro q
    rw [q] at a2
    have := hc_inj (4 * i + a) (4 * j + b) (by omega) (by omega) (by omega) (by omega) (by omega)
    omega
  · intro x hx
    obtain ⟨i, hl, hi⟩ := mem x hx
    obtain ⟨a, a0, a1, a2⟩ := (h i x hi).hd
    intro q
    rw [q] at a2
    exact hc_noz (4 * i + a) (by omega) (by omega) (by omega)
  · intro x hx
    obtain ⟨i, _, hi⟩ := mem x hx
    exact (h i x hi).kid
  · have : leaf.toNat < sg.length := by omega
    refine ⟨sg[leaf.toNat], List.getElem_mem _, ?_⟩
    exact (h leaf.toNat _ (List.getElem?_eq_getElem this)).leaf (by omega)
end TT

/-! plain: one turner behind another -/
namespace TT
variable {V U X : Type}
theorem T.sub_sub (σ : V → T U) (τ : U → T X) (m : T V) : (m.sub σ).sub τ = m.sub fun x => (σ x).sub τ := by
  induction m with
  | v x => rfl
  | z s => rfl
  | o s a ih => simp only [T.sub, ih]
  | t s a b iha ihb => simp only [T.sub, iha, ihb]
theorem T.sub_congr {p : V → Prop} {σ τ : V → T U} (h : ∀ x, p x → σ x = τ x) {m : T V} (hm : m.All p) : m.sub σ = m.sub τ := by
  induction m with
  | v x => exact h x hm
  | z s => rfl
  | o s a ih => simp only [T.sub, ih hm]
  | t s a b iha ihb => simp only [T.sub, iha hm.1, ihb hm.2]
theorem T.sub_all {p : U → Prop} {σ : V → T U} {m : T V} (h : m.All fun x => (σ x).All p) : (m.sub σ).All p := by
  induction m with
  | v x => exact h
  | z s => trivial
  | o s a ih => exact ih h
  | t s a b iha ihb => exact ⟨iha h.1, ihb h.2⟩
theorem T.sub_v (m : T V) : m.sub .v = m := by
  induction m with
  | v x => rfl
  | z s => rfl
  | o s a ih => simp only [T.sub, ih]
  | t s a b iha ihb => simp only [T.sub, iha, ihb]
theorem T.sub_size (σ : V → T U) (h : ∀ x, (σ x).size = 1) (m : T V) : (m.sub σ).size = m.size := by
  induction m with
  | v x => simp only [T.sub, h]; rfl
  | z s => rfl
  | o s a ih => simp only [T.sub, T.size, ih]
  | t s a b iha ihb => simp only [T.sub, T.size, iha, ihb]
/-- the things of a tree from the left -/
def T.vs : T V → List V
  | .v x => [x]
  | .z _ => []
  | .o _ a => a.vs
  | .t _ a b => a.vs ++ b.vs
theorem T.all_vs {p : V → Prop} (m : T V) : m.All p ↔ ∀ x ∈ m.vs, p x := by
  induction m with
  | v x => simp [T.All, T.vs]
  | z s => simp [T.All, T.vs]
  | o s a ih => simp [T.All, T.vs, ih]
  | t s a b iha ihb =>
    simp only [T.All, T.vs, iha, ihb, List.mem_append]
    exact ⟨fun h x hx => hx.elim (h.1 x) (h.2 x), fun h => ⟨fun x hx => h x (.inl hx), fun x hx => h x (.inr hx)⟩⟩
/-- a pair of states and a kid -/
abbrev Hl := (Int × Int) × Int
def lvB : Int → Int × Int → T Hl := fun st x => .v ((x.1, st), x.2)
def hD2 (y : Hl) : D := .tup [hD y.1, .int y.2]
theorem turn_sub (mr : Int → Int → Mr) (lv : Int → V → T U) (σ : Int × Int → T V) (m : Mr) : ∀ q, turn mr lv (m.sub σ) q = (turn mr lvB m q).sub fun y => turn mr lv (σ (y.1.1, y.2)) y.1.2 := by
  induction m with
  | v x => intro q; rfl
  | z s =>
    intro q
    show (mr q s).sub _ = ((mr q s).sub _).sub _
    rw [T.sub_sub]
    rfl
  | o s a ih =>
    intro q
    show (mr q s).sub _ = ((mr q s).sub _).sub _
    rw [T.sub_sub]
    congr 1
    funext h
    exact ih h.1
  | t s a b iha ihb =>
    intro q
    show (mr q s).sub _ = ((mr q s).sub _).sub _
    rw [T.sub_sub]
    congr 1
    funext h
    split
    · exact iha h.1
    · exact ihb h.1
theorem turn_all {mr : Int → Int → Mr} {lv : Int → V → T U} {p : U → Prop} (x : T V) (hl : x.All fun v => ∀ st, (lv st v).All p) : ∀ st, (turn mr lv x st).All p := by
  induction x with
  | v x => intro st; exact hl st
  | z s => intro st; exact T.sub_all (T.all_of (fun _ => trivial) _)
  | o s a ih => intro st; exact T.sub_all (T.all_of (fun (h : Int × Int) => ih hl h.1) _)
  | t s a b iha ihb =>
    intro st
    refine T.sub_all (T.all_of (fun (h : Int × Int) => ?_) _)
    split
    · exact iha hl.1 h.1
    · exact ihb hl.2 h.1
/-- the row that the one makes, turned by the other -/
def bRow (one other : Tn) (pq : Int × Int) (sg : Int) : T Hl := turn other.mr lvB (one.mr pq.1 sg) pq.2
/-- the other behind the one -/
structure Bh (one other : Tn) (P : List (Int × Int)) (both : Tn) : Prop where
  bk : both.bk = one.bk
  gl : both.gl = other.gl
  len : both.rows.length = P.length
  st : ∀ pq ∈ P, (0 ≤ pq.1 ∧ pq.1 < one.n) ∧ (0 ≤ pq.2 ∧ pq.2 < other.n)
  nd : P.Nodup
  row : ∀ i : Nat, i < P.length → ∀ sg : Int, 0 ≤ sg → sg < one.bk.ks.length → both.mr i sg = (bRow one other (P.getD i default) sg).sub fun y => .v (((P.idxOf y.1 : Nat) : Int), y.2)
  cl : ∀ pq ∈ P, ∀ sg : Int, 0 ≤ sg → sg < one.bk.ks.length → (bRow one other pq sg).All fun y => y.1 ∈ P
  zero : P.getD 0 default = (0, 0)
  pos : 0 < P.length
theorem bRow_kid {one other : Tn} (ho : one.Ok) {pq : Int × Int} (h0 : 0 ≤ pq.1) (h1 : pq.1 < one.n) {sg : Int} (h2 : 0 ≤ sg) (h3 : sg < one.bk.ks.length) : (bRow one other pq sg).All fun y => 0 ≤ y.2 ∧ y.2 < gi one.bk.ks sg :=
  turn_all _ ((ho.mr pq.1 sg h0 h1 h2 h3).all.mono fun x hx st => hx.2) _
theorem Bh.turn {one other both : Tn} (ho : one.Ok) {P : List (Int × Int)} (h : Bh one other P both) (t : G0) : t.Ok one.bk.ks → ∀ i : Nat, i < P.length → both.turn t i = other.turn (one.turn t (P.getD i default).1) (P.getD i default).2 := by
  have at_ : ∀ pq ∈ P, P.idxOf pq < P.length ∧ P.getD (P.idxOf pq) default = pq := by
    intro pq hp
    have hl := List.idxOf_lt_length_of_mem hp
    refine ⟨hl, ?_⟩
    rw [List.getD_eq_getElem?_getD, List.getElem?_eq_getElem hl]
    simp
  have mem : ∀ i, i < P.length → P.getD i default ∈ P := fun i hi => by
    rw [List.getD_eq_getElem?_getD, List.getElem?_eq_getElem hi]
    simp
  induction t with
  | v x => exact x.elim
  | z s =>
    intro ht i hi
    show (both.mr i s).sub _ = TT.turn other.mr _ ((one.mr _ s).sub _) _
    rw [h.row i hi s ht.1.1 ht.1.2, T.sub_sub, turn_sub]
    have hm := h.st _ (mem i hi)
    refine T.sub_congr (fun y hy => ?_) (bRow_kid ho hm.1.1 hm.1.2 ht.1.1 ht.1.2)
    have := ht.2
    omega
  | o s a ih =>
    intro ht i hi
    show (both.mr i s).sub _ = TT.turn other.mr _ ((one.mr _ s).sub _) _
    rw [h.row i hi s ht.1.1 ht.1.2, T.sub_sub, turn_sub]
    refine T.sub_congr (fun y hy => ?_) (h.cl _ (mem i hi) s ht.1.1 ht.1.2)
    have := ih ht.2.2 _ (at_ _ hy).1
    rw [(at_ _ hy).2] at this
    exact this
  | t s a b iha ihb =>
    intro ht i hi
    show (both.mr i s).sub _ = TT.turn other.mr _ ((one.mr _ s).sub _) _
    rw [h.row i hi s ht.1.1 ht.1.2, T.sub_sub, turn_sub]
    refine T.sub_congr (fun y hy => ?_) (h.cl _ (mem i hi) s ht.1.1 ht.1.2)
    have h1 := iha ht.2.2.1 _ (at_ _ hy).1
    have h2 := ihb ht.2.2.2 _ (at_ _ hy).1
    rw [(at_ _ hy).2] at h1 h2
    show (if y.2 = 0 then both.turn a _ else both.turn b _) = TT.turn other.mr _ (if y.2 = 0 then one.turn a y.1.1 else one.turn b y.1.1) y.1.2
    split
    · exact h1
    · exact h2
end TT

set_option maxRecDepth 10000
namespace G
open TT
def oBook (b : Bk) : D := .obj C_Book [A_names_told, A_kids_told] [.lst (b.ns.map .str), .lst (b.ks.map .int)]
@[simp] theorem objOf_oBook (b : Bk) (s : Sto) : objOf s (.d (oBook b)) = some (C_Book, [A_names_told, A_kids_told], [.lst (b.ns.map .str), .lst (b.ks.map .int)]) := (rfl)
@[simp] theorem Book_many (k : Nat) (b : Bk) (s : Sto) : call prog (k + 1) F_Book_many [.d (oBook b)] s = .ok (.d (.int b.ns.length)) s := by
  rw [at_Book_many]
  simp [runN_eq, b_Book_many]
theorem Book_kids (k : Nat) (b : Bk) (i : Int) (h0 : 0 ≤ i) (h1 : i < b.ks.length) (s : Sto) : call prog (k + 1) F_Book_kids [.d (oBook b), .d (.int i)] s = .ok (.d (.int (gi b.ks i))) s := by
  rw [at_Book_kids]
  simp [runN_eq, b_Book_kids, look_cons, atI_ok h0 h1]
theorem end_of_loop (k : Nat) (b : Bk) (hb : b.Ok) (row : List Int) (a : D) (s : Sto) (g : List D) (n : Nat) : ∀ (xs pre : List Int) (w : Int), row = pre ++ xs → ∃ q, forG (cx prog (k + 1)) n (.nm 4) [4] l_end_of_1 (g, none) (rngD pre.length row.length) [some (.d (oBook b)), some (.d (.tup (row.map .int))), some (.d a), some (.d (.int w)), none] s = .ok q s ∧ (q.1 = .nx ∧ endOf b.ks xs w pre.length = -1 ∨ q.1 = .ret (.d (.int (endOf b.ks xs w pre.length)))) := by
  intro xs
  induction xs with
  | nil =>
    intro pre w h
    simp [rngD_nil, h, endOf]
  | cons x xs ih =>
    intro pre w h
    have hx : atI row pre.length = some x := by rw [h]; exact atI_mid _ _ _
    have := ih (pre ++ [x]) (w + gi b.ks x - 1) (by simp [h])
    simp only [List.length_append, List.length_cons, List.length_nil] at this
    rw [rngD_cons (by simp [h]; omega)]
    by_cases hc : 0 ≤ x ∧ x < b.ks.length
    · by_cases hw : w + gi b.ks x - 1 = 0
      · simp [forG_cons, u_end_of_1, hx, hc.1, hc.2, hb.1, Book_kids, hw, endOf, fair, D.pl]
      · simp [forG_cons, u_end_of_1, hx, hc.1, hc.2, hb.1, Book_kids, hw, endOf, fair, D.pl]
        simpa using this
    · by_cases h0 : 0 ≤ x
      · have : ¬ (x < b.ks.length) := fun q => hc ⟨h0, q⟩
        simp [forG_cons, u_end_of_1, hx, h0, this, hb.1, endOf]
      · simp [forG_cons, u_end_of_1, hx, h0, hb.1, endOf]
theorem end_of_at (k : Nat) (b : Bk) (hb : b.Ok) (pre xs : List Int) (hr : (pre ++ xs).length < 1000000) (s : Sto) : call prog (k + 2) F_end_of [.d (oBook b), .d (.tup ((pre ++ xs).map .int)), .d (.int pre.length)] s = .ok (.d (.int (endOf b.ks xs 1 pre.length))) s := by
  obtain ⟨⟨fl, e'⟩, h1, h2⟩ := end_of_loop k b hb (pre ++ xs) (.int pre.length) s (rngD pre.length (pre ++ xs).length) s.length xs pre 1 rfl
  have o1 : okQ pre.length = true := @okQ_of _ (by omega) (by simp at hr; omega)
  have o2 : okQ (pre ++ xs).length = true := @okQ_of _ (by omega) (by omega)
  simp only [List.length_append, List.map_append, Int.natCast_add] at h1 o2
  rw [at_end_of]
  rcases h2 with ⟨h3, h4⟩ | h3
  · simp at h3
    simp [runN_eq, b_end_of, o1, o2, h1, h3, h4]
  · simp at h3
    simp [runN_eq, b_end_of, o1, o2, h1, h3]
theorem end_of_0 (k : Nat) (b : Bk) (hb : b.Ok) (row : List Int) (hr : row.length < 1000000) (s : Sto) : call prog (k + 2) F_end_of [.d (oBook b), .d (.tup (row.map .int)), .d (.int 0)] s = .ok (.d (.int (endOf b.ks row 1 0))) s := end_of_at k b hb [] row hr s
theorem is_tree_eq (k : Nat) (b : Bk) (hb : b.Ok) (row : List Int) (hr : row.length < 1000000) (s : Sto) : call prog (k + 3) F_is_tree [.d (oBook b), .d (.tup (row.map .int))] s = .ok (.d (.bl (decide (row.length ≤ 40 ∧ endOf b.ks row 1 0 = row.length)))) s := by
  rw [at_is_tree]
  by_cases h : row.length ≤ 40
  · have h' : (row.length : Int) ≤ 40 := by omega
    simp [runN_eq, b_is_tree, h, h', end_of_0 k b hb row hr, fair, D.pl]
  · have h' : ¬ (row.length : Int) ≤ 40 := by omega
    simp [runN_eq, b_is_tree, h, h']
theorem check_tree_eq (k : Nat) (b : Bk) (hb : b.Ok) (row : List Int) (hr : row.length < 1000000) (s : Sto) : call prog (k + 4) F_check_tree [.d (oBook b), .d (.tup (row.map .int))] s = if row.length ≤ 40 ∧ endOf b.ks row 1 0 = row.length then .ok (.d .non) s else .err X_NoTree s := by
  rw [at_check_tree]
  by_cases h : row.length ≤ 40 ∧ endOf b.ks row 1 0 = row.length
  · simp [runN_eq, b_check_tree, is_tree_eq k b hb row hr, h]
  · simp [runN_eq, b_check_tree, is_tree_eq k b hb row hr, h]
theorem check_tree_ok (k : Nat) (b : Bk) (hb : b.Ok) (t : G0) (ht : t.Ok b.ks) (h : t.size ≤ 40) (s : Sto) : call prog (k + 4) F_check_tree [.d (oBook b), .d (tD t)] s = .ok (.d .non) s := by
  unfold tD
  rw [check_tree_eq k b hb _ (by rw [T.nums_len]; omega), if_pos]
  have := endOf_self b.ks t ht [] 0
  rw [List.append_nil] at this
  rw [this, T.nums_len]
  exact ⟨h, by simp⟩
end G

set_option maxRecDepth 10000
namespace G
open TT
variable {V U : Type}
/-- a hand: what it leads to are trees, told by enc -/
structure Hand (K : Nat) (hd : D) (ks : List Int) (enc : T U → D) : Prop where
  ob : ∃ cl as vs f, (∀ s, objOf s (.d hd) = some (cl, as, vs)) ∧ prog.meth cl M_lead = some f ∧
    (∀ sg, (T.z sg : T U).Ok ks → ∀ k s, call prog (k + K) f [.d hd, .d (.int sg), .d (.tup [])] s = .ok (.d (enc (.z sg))) s) ∧
    (∀ sg a, (T.o sg a : T U).Ok ks → ∀ k s, call prog (k + K) f [.d hd, .d (.int sg), .d (.tup [enc a])] s = .ok (.d (enc (.o sg a))) s) ∧
    (∀ sg a b, (T.t sg a b : T U).Ok ks → ∀ k s, call prog (k + K) f [.d hd, .d (.int sg), .d (.tup [enc a, enc b])] s = .ok (.d (enc (.t sg a b))) s)
theorem folded_loop {K : Nat} {hd : D} {b : Bk} (hb : b.Ok) {enc : T U → D} (H : Hand (K + 1) hd b.ks enc) (k n : Nat) (s : Sto) (gv : W) (gks gvs : List D) (hg : ∀ r, dctOf (s ++ r) gv = some (1, gks, gvs)) (σ : Int × Int → T U) (rw : W) (g0 : List D) (m : Mr) :
    ∀ (rest st : List D), m.Ok b.ks → (m.All fun x => (σ x).Ok b.ks ∧ look (hD x) gks gvs = some (enc (σ x))) → st.length + m.size ≤ 10000 →
    forG (cx prog (k + K + 1)) n (.nm 5) [5, 6, 7] l_folded_1 (g0, none) ((m.row hD).reverse ++ rest) [some (.d (oBook b)), some rw, some (.d hd), some gv, some (.loc s.length), none, none, none] (s ++ [.lst st]) = forG (cx prog (k + K + 1)) n (.nm 5) [5, 6, 7] l_folded_1 (g0, none) rest [some (.d (oBook b)), some rw, some (.d hd), some gv, some (.loc s.length), none, none, none] (s ++ [.lst (st ++ [enc (m.sub σ)])]) := by
  obtain ⟨cl, as, vs, f, ho, hf, hz, hn, ht⟩ := H
  simp only [← Nat.add_assoc] at hz hn ht
  induction m with
  | v x =>
    intro rest st hm ha hl
    have hq : keysOk 1 (hD x) = true := rfl
    have h1 := ha.2
    simp only [T.size] at hl
    have hs : sm st.length = true := sm_of (by omega)
    simp only [hD] at hq h1
    simp [T.row, forG_cons, u_folded_1, hD, T.sub, hg, hq, h1, hs]
  | z sg =>
    intro rest st hm ha hl
    simp only [T.size] at hl
    have hs : sm st.length = true := sm_of (by omega)
    simp [T.row, forG_cons, u_folded_1, T.sub, hs, Book_kids, hm.1.1, hm.1.2, hm.2, rngD00, finC, ho, hf, hz sg hm]
  | o sg a ih =>
    intro rest st hm ha hl
    simp only [T.size] at hl
    have hs : sm st.length = true := sm_of (by omega)
    have := ih (D.int sg :: rest) st hm.2.2 ha (by omega)
    simp [T.row, this]
    have h0 : (T.o sg (a.sub σ)).Ok b.ks := ⟨hm.1, hm.2.1, T.sub_ok a (ha.mono fun x h => h.1) hm.2.2⟩
    simp [T.row, forG_cons, lcG_cons, lcA, u_folded_1, T.sub, hs, Book_kids, hm.1.1, hm.1.2, hm.2.1, rngD01, finC, ho, hf, hn sg _ h0]
  | t sg a c iha ihb =>
    intro rest st hm ha hl
    simp only [T.size] at hl
    have hs : sm st.length = true := sm_of (by omega)
    have h1 := ihb ((T.row hD a).reverse ++ D.int sg :: rest) st hm.2.2.2 ha.2 (by omega)
    have h2 := iha (D.int sg :: rest) (st ++ [enc (c.sub σ)]) hm.2.2.1 ha.1 (by simp; have := c.size_pos; omega)
    simp [T.row, h1, h2]
    have h0 : (T.t sg (a.sub σ) (c.sub σ)).Ok b.ks := ⟨hm.1, hm.2.1, T.sub_ok a (ha.1.mono fun x h => h.1) hm.2.2.1, T.sub_ok c (ha.2.mono fun x h => h.1) hm.2.2.2⟩
    simp [T.row, forG_cons, lcG_cons, lcA, u_folded_1, T.sub, hs, Book_kids, hm.1.1, hm.1.2, hm.2.1, rngD02, finC, ho, hf, ht sg _ _ h0]

theorem folded_eq {K : Nat} {hd : D} {b : Bk} (hb : b.Ok) {enc : T U → D} (H : Hand (K + 1) hd b.ks enc) (k : Nat) (s : Sto) (gv : W) (gks gvs : List D) (hg : ∀ r, dctOf (s ++ r) gv = some (1, gks, gvs)) (σ : Int × Int → T U) (m : Mr)
    (hm : m.Ok b.ks) (ha : m.All fun x => (σ x).Ok b.ks ∧ look (hD x) gks gvs = some (enc (σ x))) (hl : m.size ≤ 10000) :
    call prog (k + K + 2) F_folded [.d (oBook b), .d (mD m), .d hd, gv] s = .ok (.d (enc (m.sub σ))) s := by
  have h1 := folded_loop hb H k (s.length + 1) s gv gks gvs hg σ (.d (mD m)) (m.row hD).reverse m [] [] hm ha (by simpa using hl)
  simp only [List.append_nil, List.nil_append] at h1
  rw [at_folded]
  unfold mD at h1 ⊢
  have a1 := atI_last [] (enc (m.sub σ))
  rw [List.nil_append] at a1
  simp [runN_eq, b_folded, h1, a1]
/-! Through -/
def oTurner (t : Tn) : D := .obj C_Turner [A_own_book, A_own_goals, A_own_rows] [oBook t.bk, oBook t.gl, .lst (t.rows.map fun some => .lst (some.map mD))]
@[simp] theorem objOf_oTurner (t : Tn) (s : Sto) : objOf s (.d (oTurner t)) = some (C_Turner, [A_own_book, A_own_goals, A_own_rows], [oBook t.bk, oBook t.gl, .lst (t.rows.map fun some => .lst (some.map mD))]) := rfl
@[simp] theorem Turner_book (k : Nat) (t : Tn) (s : Sto) : call prog (k + 1) F_Turner_book [.d (oTurner t)] s = .ok (.d (oBook t.bk)) s := by
  rw [at_Turner_book]
  simp [runN_eq, b_Turner_book]
@[simp] theorem Turner_goals (k : Nat) (t : Tn) (s : Sto) : call prog (k + 1) F_Turner_goals [.d (oTurner t)] s = .ok (.d (oBook t.gl)) s := by
  rw [at_Turner_goals]
  simp [runN_eq, b_Turner_goals, look_cons]
@[simp] theorem Turner_states (k : Nat) (t : Tn) (s : Sto) : call prog (k + 1) F_Turner_states [.d (oTurner t)] s = .ok (.d (.int t.n)) s := by
  rw [at_Turner_states]
  simp [runN_eq, b_Turner_states, look_cons, Tn.n]
theorem Turner_row (k : Nat) {t : Tn} (ht : t.Ok) {st sg : Int} (h0 : 0 ≤ st) (h1 : st < t.n) (h2 : 0 ≤ sg) (h3 : sg < t.bk.ks.length) (s : Sto) : call prog (k + 1) F_Turner_row [.d (oTurner t), .d (.int st), .d (.int sg)] s = .ok (.d (mD (t.mr st sg))) s := by
  rw [at_Turner_row]
  have a1 : atI t.rows st = some (gi t.rows st) := atI_ok h0 h1
  have a2 : atI (gi t.rows st) sg = some (t.mr st sg) := atI_ok h2 (by rw [ht.len _ (Tn.row_mem h0 h1)]; exact h3)
  simp [runN_eq, b_Turner_row, look_cons, a1, a2]
def oThrough (t : Tn) (inner : D) : D := .obj C_Through [A_own_turner, A_own_inner] [oTurner t, inner]
@[simp] theorem objOf_oThrough (t : Tn) (i : D) (s : Sto) : objOf s (.d (oThrough t i)) = some (C_Through, [A_own_turner, A_own_inner], [oTurner t, i]) := rfl
theorem of_row_loop1 (k n : Nat) (s : Sto) (kd : Int) (w1 w2 w3 : W) (g : List D) (hk : 0 ≤ kd) : ∀ (vals : List D) (i : Nat) (ks vs : List D) (f : D → Option D), DictIs ks vs f → ks.length + vals.length ≤ 9000 →
    ∃ ks' vs', forG (cx prog k) n (.tp [6, 7]) [6, 7] l_Through_of_row_1 (g, none) (enumD i vals) [some w1, some w2, some w3, some (.loc s.length), some (.d (.int kd)), some (.d (.tup vals)), none, none] (s ++ [.dct 1 ks vs]) = .ok (.nx, [some w1, some w2, some w3, some (.loc s.length), some (.d (.int kd)), some (.d (.tup vals)), none, none]) (s ++ [.dct 1 ks' vs']) ∧ DictIs ks' vs' (given kd i vals f) ∧ ks'.length ≤ ks.length + vals.length := by
  intro vals
  suffices go : ∀ (q : List D) (i : Nat) (ks vs : List D) (f : D → Option D), DictIs ks vs f → ks.length + q.length ≤ 9000 →
    ∃ ks' vs', forG (cx prog k) n (.tp [6, 7]) [6, 7] l_Through_of_row_1 (g, none) (enumD i q) [some w1, some w2, some w3, some (.loc s.length), some (.d (.int kd)), some (.d (.tup vals)), none, none] (s ++ [.dct 1 ks vs]) = .ok (.nx, [some w1, some w2, some w3, some (.loc s.length), some (.d (.int kd)), some (.d (.tup vals)), none, none]) (s ++ [.dct 1 ks' vs']) ∧ DictIs ks' vs' (given kd i q f) ∧ ks'.length ≤ ks.length + q.length from go vals
  intro q
  induction q with
  | nil =>
    intro i ks vs f hf hl
    exact ⟨ks, vs, by simp [enumD], hf, by simp⟩
  | cons v q ih =>
    intro i ks vs f hf hl
    simp only [List.length_cons] at hl
    have hp := putKs_len (D.tup [.int i, .int kd]) ks
    obtain ⟨ks', vs', e, h1, h2⟩ := ih (i + 1) _ _ _ (hf.put (hD (i, kd)) v) (by simp only [hD]; omega)
    refine ⟨ks', vs', ?_, h1, by simp only [hD] at h2; simp; omega⟩
    have hq : keysOk 1 (.tup [.int i, .int kd]) = true := rfl
    have hs : sm ks.length = true := sm_of (by omega)
    rw [← e]
    simp [enumD, forG_cons, u_Through_of_row_1, hq, hs, hD]

theorem of_row_loop2 (k n : Nat) (s : Sto) (w1 w2 w3 : W) (g : List D) : ∀ (kss : List (List D)) (j : Nat) (ks vs : List D) (f : D → Option D), DictIs ks vs f → ks.length + (kss.map List.length).sum ≤ 9000 →
    ∃ ks' vs', forG (cx prog k) n (.tp [4, 5]) [4, 5, 6, 7] l_Through_of_row_2 (g, none) (enumD j (kss.map .tup)) [some w1, some w2, some w3, some (.loc s.length), none, none, none, none] (s ++ [.dct 1 ks vs]) = .ok (.nx, [some w1, some w2, some w3, some (.loc s.length), none, none, none, none]) (s ++ [.dct 1 ks' vs']) ∧ DictIs ks' vs' (given2 j kss f) := by
  intro kss
  induction kss with
  | nil =>
    intro j ks vs f hf hl
    exact ⟨ks, vs, by simp [enumD], hf⟩
  | cons v q ih =>
    intro j ks vs f hf hl
    simp only [List.map_cons, List.sum_cons] at hl
    obtain ⟨ks1, vs1, e1, h1, h2⟩ := of_row_loop1 k (s.length + 1) s j w1 w2 w3 (enumD 0 v) (by omega) v 0 ks vs f hf (by omega)
    obtain ⟨ks2, vs2, e2, h3⟩ := ih (j + 1) _ _ _ h1 (by omega)
    refine ⟨ks2, vs2, ?_, by simpa [given2] using h3⟩
    simp [enumD, forG_cons, u_Through_of_row_2, e1, e2]
theorem of_row_eq {K : Nat} {tn : Tn} (ht : tn.Ok) {inner : D} {enc : T U → D} (H : Hand (K + 1) inner tn.gl.ks enc) (k : Nat) (s : Sto) (m : Mr) (hm : m.Ok tn.gl.ks) (hl : m.size ≤ 10000) (kss : List (List D)) (hk : (kss.map List.length).sum ≤ 9000) (σ : Int × Int → T U)
    (ha : m.All fun x => (σ x).Ok tn.gl.ks ∧ (0 ≤ x.2 ∧ x.2 < kss.length ∧ 0 ≤ x.1 ∧ x.1 < (gi kss x.2).length) ∧ gi (gi kss x.2) x.1 = enc (σ x)) :
    call prog (k + K + 3) F_Through_of_row [.d (oThrough tn inner), .d (mD m), .d (.tup (kss.map .tup))] s = .ok (.d (enc (m.sub σ))) s := by
  rw [at_Through_of_row]
  obtain ⟨ks1, vs1, e1, h1⟩ := of_row_loop2 (k + K + 2) (s.length + 1) s (.d (oThrough tn inner)) (.d (mD m)) (.d (.tup (kss.map .tup))) (enumD 0 (kss.map .tup)) kss 0 [] [] _ DictIs.nil (by simpa using hk)
  have h2 := folded_eq ht.gl H k (s ++ [.dct 1 ks1 vs1]) (.loc s.length) ks1 vs1 (by intro r; simp) σ m hm (ha.mono fun x h => ⟨h.1, by
    rw [h1.get, given2_at, if_pos (by simp; omega)]
    simpa using h.2.2⟩) hl
  simp [runN_eq, b_Through_of_row, e1, look_cons, h2]
/-- what Through leads to -/
def tEnc (tn : Tn) (lv : Int → V → T U) (enc : T U → D) (x : T V) : D := .tup (states tn.n fun st => enc (turn tn.mr lv x st))
theorem lead_loop {K : Nat} {tn : Tn} (ht : tn.Ok) {inner : D} {enc : T U → D} (H : Hand (K + 1) inner tn.gl.ks enc) (k n : Nat) (s : Sto) (g : List D) (kss : List (List D)) (hk : (kss.map List.length).sum ≤ 9000) (sg : Int) (h0 : 0 ≤ sg) (h1 : sg < tn.bk.ks.length) (f : Int → T U)
    (ha : ∀ st, 0 ≤ st → st < tn.n → ∃ σ, f st = (tn.mr st sg).sub σ ∧ (tn.mr st sg).All fun x => (σ x).Ok tn.gl.ks ∧ (0 ≤ x.2 ∧ x.2 < kss.length ∧ 0 ≤ x.1 ∧ x.1 < (gi kss x.2).length) ∧ gi (gi kss x.2) x.1 = enc (σ x)) :
    call prog (k + K + 4) F_Through_lead [.d (oThrough tn inner), .d (.int sg), .d (.tup (kss.map .tup))] s = .ok (.d (.tup (states tn.n fun st => enc (f st)))) s := by
  rw [at_Through_lead]
  have hn : 0 ≤ tn.n ∧ tn.n ≤ 4000 := by have := ht.most; unfold Tn.n; omega
  have e := forG_rng (c := cx prog (k + K + 3)) (n := s.length + 1) (tg := .nm 4) (kill := [4]) (body := l_Through_lead_1) (g := (rngD 0 tn.n, none))
    (fun _ => [some (.d (oThrough tn inner)), some (.d (.int sg)), some (.d (.tup (kss.map .tup))), some (.loc s.length), none]) (fun j => s ++ [.lst (states j fun st => enc (f st))]) (i := 0) (m := tn.n) hn.1 (fun j r j0 j1 => by
      obtain ⟨σ, e, hσ⟩ := ha j j0 j1
      have e1 := of_row_eq ht H k (s ++ [.lst (states j fun st => enc (f st))]) (tn.mr j sg) (ht.mr j sg j0 j1 h0 h1).ok (by have := Tn.mr_size ht j0 j1 h0 h1; omega) kss hk σ hσ
      have hs : sm (states j fun st => enc (f st)).length = true := sm_of (by rw [states_len]; omega)
      rw [states_succ j0, e]
      simp [forG_cons, u_Through_lead_1, look_cons, Turner_row _ ht j0 j1 h0 h1, e1, hs])
  rw [states_zero] at e
  have ho : okQ tn.n = true := okQ_of (by omega) (by omega)
  simp [runN_eq, b_Through_lead, look_cons, ho, e]
end G

set_option maxRecDepth 10000
namespace G
open TT
variable {V U : Type}
theorem Hand.mono {K : Nat} {hd : D} {ks : List Int} {enc : T U → D} (H : Hand K hd ks enc) (j : Nat) : Hand (K + j) hd ks enc := by
  obtain ⟨cl, as, vs, f, ho, hf, hz, hn, ht⟩ := H
  refine ⟨cl, as, vs, f, ho, hf, fun sg h k s => ?_, fun sg a h k s => ?_, fun sg a b h k s => ?_⟩
  · rw [show k + (K + j) = k + j + K by omega]; exact hz sg h _ s
  · rw [show k + (K + j) = k + j + K by omega]; exact hn sg a h _ s
  · rw [show k + (K + j) = k + j + K by omega]; exact ht sg a b h _ s
theorem through_hand {K : Nat} {tn : Tn} (ht : tn.Ok) {inner : D} {enc : T U → D} (H : Hand (K + 1) inner tn.gl.ks enc) (lv : Int → V → T U) (hlv : ∀ st x, 0 ≤ st → st < tn.n → (lv st x).Ok tn.gl.ks) : Hand (K + 4) (oThrough tn inner) tn.bk.ks (tEnc tn lv enc) := by
  have hn : 0 ≤ tn.n ∧ tn.n ≤ 4000 := by have := ht.most; unfold Tn.n; omega
  refine ⟨C_Through, _, _, F_Through_lead, fun s => objOf_oThrough _ _ s, by simp, fun sg h k s => ?_, fun sg a h k s => ?_, fun sg a b h k s => ?_⟩
  · have := lead_loop ht H k 0 s [] [] (by simp) sg h.1.1 h.1.2 (fun st => turn tn.mr lv (.z sg) st) (fun st j0 j1 => ⟨_, rfl, (ht.mr st sg j0 j1 h.1.1 h.1.2).all.mono fun x hx => by
      have := h.2; omega⟩)
    rw [← Nat.add_assoc]
    exact this
  · have := lead_loop ht H k 0 s [] [states tn.n fun st => enc (turn tn.mr lv a st)] (by simp [states_len]; omega) sg h.1.1 h.1.2 (fun st => turn tn.mr lv (.o sg a) st) (fun st j0 j1 => ⟨_, rfl, (ht.mr st sg j0 j1 h.1.1 h.1.2).all.mono fun x hx => by
      have h1 := h.2.1
      have h2 : x.2 = 0 := by omega
      refine ⟨turn_ok ht hlv a h.2.2 _ hx.1.1 hx.1.2, ?_⟩
      simp only [h2, gi, Int.toNat_zero, List.getD_cons_zero]
      have h3 := gi_states hx.1.1 hx.1.2 fun st => enc (turn tn.mr lv a st)
      simp only [gi] at h3
      refine ⟨?_, h3⟩
      simp [states_len]; omega⟩)
    rw [← Nat.add_assoc]
    exact this
  · have := lead_loop ht H k 0 s [] [states tn.n fun st => enc (turn tn.mr lv a st), states tn.n fun st => enc (turn tn.mr lv b st)] (by simp [states_len]; omega) sg h.1.1 h.1.2 (fun st => turn tn.mr lv (.t sg a b) st) (fun st j0 j1 => ⟨_, rfl, (ht.mr st sg j0 j1 h.1.1 h.1.2).all.mono fun x hx => by
      have h1 := h.2.1
      have h2 : x.2 = 0 ∨ x.2 = 1 := by omega
      rcases h2 with h2 | h2
      · rw [if_pos h2]
        refine ⟨turn_ok ht hlv a h.2.2.1 _ hx.1.1 hx.1.2, ?_⟩
        simp only [h2, gi, Int.toNat_zero, List.getD_cons_zero]
        have h3 := gi_states hx.1.1 hx.1.2 fun st => enc (turn tn.mr lv a st)
        simp only [gi] at h3
        refine ⟨?_, h3⟩
        simp [states_len]; omega
      · rw [if_neg (by omega)]
        refine ⟨turn_ok ht hlv b h.2.2.2 _ hx.1.1 hx.1.2, ?_⟩
        simp only [h2, gi, show (1 : Int).toNat = 1 from rfl, List.getD_cons_succ, List.getD_cons_zero]
        have h3 := gi_states hx.1.1 hx.1.2 fun st => enc (turn tn.mr lv b st)
        simp only [gi] at h3
        refine ⟨?_, h3⟩
        simp [states_len]; omega⟩)
    rw [← Nat.add_assoc]
    exact this
@[simp] theorem Through_init (k : Nat) (a b : D) (s : Sto) : call prog (k + 1) F_Through___init__ [.loc s.length, .d a, .d b] (s ++ [.obj C_Through [] []]) = .ok (.d .non) (s ++ [.obj C_Through [A_own_turner, A_own_inner] [a, b]]) := by
  rw [at_Through___init__]
  simp [runN_eq, b_Through___init__, putKs, putN]
@[simp] theorem new_Through (k : Nat) (t : Tn) (b : D) (s : Sto) : newG (call prog (k + 1)) F_Through___init__ C_Through true [.d (oTurner t), .d b] s = .ok (.d (oThrough t b)) s := newG_ok (Through_init k _ b s)
end G

set_option maxRecDepth 10000
namespace G
open TT
variable {V U : Type}
theorem all_folded_loop {K : Nat} {hd : D} {b : Bk} (hb : b.Ok) {enc : G0 → D} (H : Hand (K + 1) hd b.ks enc) (k n : Nat) (s : Sto) (tr : W) (g0 : List D) (x : G0) :
    ∀ (rest st fo : List D), x.Ok b.ks → st.length + x.size ≤ 10000 → fo.length + x.size ≤ 10000 →
    forG (cx prog (k + K + 1)) n (.nm 5) [5, 6, 7] l_all_folded_1 (g0, none) ((x.nums.map D.int).reverse ++ rest) [some (.d (oBook b)), some tr, some (.d hd), some (.loc s.length), some (.loc (s.length + 1)), none, none, none] (s ++ [.lst fo, .lst st]) = forG (cx prog (k + K + 1)) n (.nm 5) [5, 6, 7] l_all_folded_1 (g0, none) rest [some (.d (oBook b)), some tr, some (.d hd), some (.loc s.length), some (.loc (s.length + 1)), none, none, none] (s ++ [.lst (fo ++ (x.subs.map enc).reverse), .lst (st ++ [enc x])]) := by
  obtain ⟨cl, as, vs, f, ho, hf, hz, hn, ht⟩ := H
  simp only [← Nat.add_assoc] at hz hn ht
  induction x with
  | v x => exact x.elim
  | z sg =>
    intro rest st fo hm hl hl2
    simp only [T.size] at hl hl2
    have hs : sm st.length = true := sm_of (by omega)
    have hs2 : sm fo.length = true := sm_of (by omega)
    simp [T.nums, forG_cons, u_all_folded_1, hs, hs2, Book_kids, hm.1.1, hm.1.2, hm.2, rngD00, finC, ho, hf, hz sg hm, T.subs]
  | o sg a ih =>
    intro rest st fo hm hl hl2
    simp only [T.size] at hl hl2
    have hs : sm st.length = true := sm_of (by omega)
    have hs2 : sm (fo.length + a.subs.length) = true := sm_of (by rw [T.subs_len]; omega)
    have := ih (D.int sg :: rest) st fo hm.2.2 (by omega) (by omega)
    simp [T.nums, this]
    simp [forG_cons, lcG_cons, lcA, u_all_folded_1, hs, hs2, Book_kids, hm.1.1, hm.1.2, hm.2.1, rngD01, finC, ho, hf, hn sg _ hm, T.subs]
  | t sg a c iha ihb =>
    intro rest st fo hm hl hl2
    simp only [T.size] at hl hl2
    have hs : sm st.length = true := sm_of (by omega)
    have hs2 : sm (fo.length + (c.subs.length + a.subs.length)) = true := sm_of (by rw [T.subs_len, T.subs_len]; omega)
    have h1 := ihb ((a.nums.map D.int).reverse ++ D.int sg :: rest) st fo hm.2.2.2 (by omega) (by omega)
    have h2 := iha (D.int sg :: rest) (st ++ [enc c]) (fo ++ (c.subs.map enc).reverse) hm.2.2.1 (by simp; have := c.size_pos; omega) (by simp [T.subs_len]; omega)
    simp [T.nums, h1, h2]
    simp [forG_cons, lcG_cons, lcA, u_all_folded_1, hs, hs2, Book_kids, hm.1.1, hm.1.2, hm.2.1, rngD02, finC, ho, hf, ht sg _ _ hm, T.subs]
theorem all_folded_eq {K : Nat} {hd : D} {b : Bk} (hb : b.Ok) {enc : G0 → D} (H : Hand (K + 1) hd b.ks enc) (k : Nat) (s : Sto) (x : G0) (hx : x.Ok b.ks) (hl : x.size ≤ 10000) :
    call prog (k + K + 2) F_all_folded [.d (oBook b), .d (tD x), .d hd] s = .ok (.d (.lst (x.subs.map enc))) s := by
  have h1 := all_folded_loop hb H k (s.length + 2) s (.d (tD x)) (x.nums.map D.int).reverse x [] [] [] hx (by simpa using hl) (by simpa using hl)
  simp only [List.append_nil, List.nil_append] at h1
  rw [at_all_folded]
  unfold tD at h1 ⊢
  simp [runN_eq, b_all_folded, h1]
end G

set_option maxRecDepth 10000
namespace TT
variable {V U : Type}
/-- what Built leads to -/
def bEnc (most : Int) (f : U → D) (x : T U) : D := .tup [.int x.size, if x.size ≤ most then .tup (x.row f) else .non]
end TT
namespace G
open TT
variable {V U : Type}
def oBuilt (most : Int) : D := .obj C_Built [A_own_most] [.int most]
@[simp] theorem objOf_oBuilt (m : Int) (s : Sto) : objOf s (.d (oBuilt m)) = some (C_Built, [A_own_most], [.int m]) := rfl
theorem built_hand (most : Int) (hm : most ≤ 5000) (f : U → D) (ks : List Int) : Hand 1 (oBuilt most) ks (bEnc most f) := by
  refine ⟨C_Built, _, _, F_Built_lead, fun s => objOf_oBuilt _ s, by simp, fun sg h k s => ?_, fun sg a h k s => ?_, fun sg a b h k s => ?_⟩
  · rw [at_Built_lead]
    by_cases q : (1 : Int) ≤ most
    · have q' : ¬ most < 1 := by omega
      simp [runN_eq, b_Built_lead, lcG_cons, lcA, finC, dInts, forG_cons, bEnc, T.size, T.row, q, q']
    · have q' : most < 1 := by omega
      simp [runN_eq, b_Built_lead, lcG_cons, lcA, finC, dInts, forG_cons, bEnc, T.size, T.row, q, q']
  · rw [at_Built_lead]
    by_cases q : (1 + (a.size : Int)) ≤ most
    · have q' : ¬ most < 1 + (a.size : Int) := by omega
      have q2 : (a.size : Int) ≤ most := by omega
      have hs : sm (a.row f).length = true := sm_of (by rw [T.row_len]; omega)
      simp [runN_eq, b_Built_lead, lcG_cons, lcA, finC, dInts, forG_cons, bEnc, T.size, T.row, q, q', atI, ixOf, q2, hs, u_Built_lead_1]
    · have q' : most < 1 + (a.size : Int) := by omega
      simp [runN_eq, b_Built_lead, lcG_cons, lcA, finC, dInts, forG_cons, bEnc, T.size, T.row, q, q', atI, ixOf]
  · rw [at_Built_lead]
    by_cases q : (1 + ((a.size : Int) + (b.size : Int))) ≤ most
    · have q' : ¬ most < 1 + ((a.size : Int) + (b.size : Int)) := by omega
      have q2 : (a.size : Int) ≤ most := by omega
      have q3 : (b.size : Int) ≤ most := by omega
      have hs : sm (a.row f).length = true := sm_of (by rw [T.row_len]; omega)
      have hs2 : sm (b.row f).length = true := sm_of (by rw [T.row_len]; omega)
      have hs3 : sm ((a.row f).length + 1) = true := sm_of (by rw [T.row_len]; omega)
      simp [runN_eq, b_Built_lead, lcG_cons, lcA, finC, dInts, forG_cons, bEnc, T.size, T.row, q, q', atI, ixOf, q2, q3, hs, hs2, hs3, u_Built_lead_1]
    · have q' : most < 1 + ((a.size : Int) + (b.size : Int)) := by omega
      simp [runN_eq, b_Built_lead, lcG_cons, lcA, finC, dInts, forG_cons, bEnc, T.size, T.row, q, q', atI, ixOf]
theorem told_row_eq (k : Nat) (n : D) (r : D) (s : Sto) : call prog (k + 1) F_told_row [.d (.tup [n, r])] s = if r = .non then .err X_TooGreat s else .ok (.d r) s := by
  rw [at_told_row]
  by_cases h : r = .non
  · simp [runN_eq, b_told_row, atI, ixOf, h]
  · simp [runN_eq, b_told_row, atI, ixOf, h]
@[simp] theorem Built_init (k : Nat) (a : D) (s : Sto) : call prog (k + 1) F_Built___init__ [.loc s.length, .d a] (s ++ [.obj C_Built [] []]) = .ok (.d .non) (s ++ [.obj C_Built [A_own_most] [a]]) := by
  rw [at_Built___init__]
  simp [runN_eq, b_Built___init__, putKs, putN]
@[simp] theorem new_Built (k : Nat) (m : Int) (s : Sto) : newG (call prog (k + 1)) F_Built___init__ C_Built true [.d (.int m)] s = .ok (.d (oBuilt m)) s := newG_ok (Built_init k _ s)
theorem turned_by_eq {tn : Tn} (ht : tn.Ok) (k : Nat) (s : Sto) (x : G0) (hx : x.Ok tn.bk.ks) (hl : x.size ≤ 10000) :
    call prog (k + 7) F_turned_by [.d (oTurner tn), .d (tD x)] s = if (tn.turn x 0).size ≤ 200 then .ok (.d (tD (tn.turn x 0))) s else .err X_TooGreat s := by
  have H1 := built_hand (U := Empty) 200 (by omega) (fun e => e.elim) tn.gl.ks
  have H2 := through_hand (K := 0) ht H1 (fun _ x => x.elim : Int → Empty → G0) (fun _ x => x.elim)
  have e := fun s => all_folded_eq (K := 3) ht.bk H2 (k + 1) s x hx hl
  simp only [Nat.add_assoc, Nat.reduceAdd] at e
  have hn : 0 < tn.n := by have := ht.pos; unfold Tn.n; omega
  rw [at_turned_by]
  have e1 : atI x.subs 0 = some x := by
    have := T.subs_head x
    have h2 := x.subs_len
    have h3 := x.size_pos
    unfold atI ixOf
    rw [if_pos (by omega), if_pos (by omega)]
    simp [this]
  have e2 : atI (states tn.n fun st => bEnc 200 (fun e => e.elim) (turn tn.mr (fun _ x => x.elim : Int → Empty → G0) x st)) 0 = some (bEnc 200 (fun e => e.elim) (tn.turn x 0)) := by
    rw [atI_ok (by omega) (by rw [states_len]; omega), gi_states (by omega) hn]
    rfl
  by_cases h : (tn.turn x 0).size ≤ 200
  · have h' : ((tn.turn x 0).size : Int) ≤ 200 := by omega
    simp [runN_eq, b_turned_by, e, e1, tEnc]
    rw [e2]
    simp [bEnc, told_row_eq, h, h', tD, T.row_nums]
  · have h' : ¬ ((tn.turn x 0).size : Int) ≤ 200 := by omega
    simp [runN_eq, b_turned_by, e, e1, tEnc]
    rw [e2]
    simp [bEnc, told_row_eq, h, h', tD, T.row_nums]
end G

set_option maxRecDepth 10000
namespace G
open TT
open PySem (Str)
theorem Book_is_like (k : Nat) (a b : Bk) (s : Sto) : call prog (k + 1) F_Book_is_like [.d (oBook a), .d (oBook b)] s = .ok (.d (.bl (decide (a = b)))) s := by
  obtain ⟨an, ak⟩ := a
  obtain ⟨bn, bk⟩ := b
  rw [at_Book_is_like]
  by_cases h : an = bn
  · simp [runN_eq, b_Book_is_like, look_cons, fair_strs, fair_ints, map_str_inj, map_int_inj, h]
  · simp [runN_eq, b_Book_is_like, look_cons, fair_strs, fair_ints, map_str_inj, map_int_inj, h]
theorem must_be_like_eq (k : Nat) (a b : Bk) (s : Sto) : call prog (k + 2) F_must_be_like [.d (oBook a), .d (oBook b)] s = if a = b then .ok (.d .non) s else .err X_Unlike s := by
  rw [at_must_be_like]
  by_cases h : a = b
  · simp [runN_eq, b_must_be_like, Book_is_like, h]
  · simp [runN_eq, b_must_be_like, Book_is_like, h]
theorem inT_LET (c : Nat) (s : Sto) : opSem .inT [.d (.str ⟨#[c]⟩), .d (.str LET)] s = .ok (.w (.d (.bl (decide (97 ≤ c ∧ c < 123))))) s := by
  simp only [opSem, inTx]
  simp only [Bool.false_eq_true, if_false, bl1]
  congr 4
  simp only [decide_eq_decide, LET_mem]
theorem is_name_ok (k : Nat) (z : Str) (h : NameOk z) (s : Sto) : call prog (k + 1) F_is_name [.d (.str z), .d (.int 3)] s = .ok (.d (.bl true)) s := by
  rw [at_is_name]
  have h1 := h.pos
  have h2 := h.most
  have h3 : z.cps.size = z.length := rfl
  have e := lcG_map1 (c := cx prog k) (n := s.length) (tg := .nm 2) (g := (z.cps.toList.map fun c => D.str ⟨#[c]⟩, none)) (ifs := .nil) (elt := .op true .inT (.cons (.v 2) (.cons (.g 0 (.str LET)) .nil))) (e := [some (.d (.str z)), some (.d (.int 3)), none]) (s := s)
    (fun c => D.str ⟨#[c]⟩) (fun c => D.bl (decide (97 ≤ c ∧ c < 123))) z.cps.toList (by simp; omega) (fun c hc acc r ha => by
      simp [lcG_cons, lcA, inT_LET, ha])
  have hs : sm z.length = true := sm_of (by omega)
  have q1 : (1 : Int) ≤ z.length := by omega
  have q2 : (z.length : Int) ≤ 3 := by omega
  have e3 : ∀ x ∈ z.cps.toList, 97 ≤ x ∧ x < 123 := h.lt
  simp only [LET] at e
  simp [runN_eq, b_is_name, TT.o_len_s _ z hs, q1, q2, e, finC, bls_map]
  intro x hx
  exact e3 _ (by simp)
end G
namespace G
open TT
open PySem (Str)
theorem check_book_loop (k n : Nat) (s : Sto) (w : W) (g : List D) (k1 : 0 < k) : ∀ (q p : Sg), (p ++ q).Ok → ∃ c : Int, (p.countP fun x => decide (x.2 = 0)) + (q.countP fun x => decide (x.2 = 0)) = c ∧ forG (cx prog (k + 1)) n (.tp [3, 4]) [3, 4] l_check_book_1 (g, none) (q.map fun x => .tup [.str x.1, .int x.2]) [some w, some (.loc s.length), some (.d (.int (p.countP fun x => decide (x.2 = 0)))), none, none] (s ++ [.lst (p.map fun x => .str x.1)]) = .ok (.nx, [some w, some (.loc s.length), some (.d (.int c)), none, none]) (s ++ [.lst ((p ++ q).map fun x => .str x.1)]) := by
  intro q
  induction q with
  | nil => intro p h; exact ⟨_, rfl, by simp⟩
  | cons x q ih =>
    intro p h
    obtain ⟨c, h1, h2⟩ := ih (p ++ [x]) (by simpa using h)
    refine ⟨c, by
      by_cases hz : x.2 = 0 <;> simp [hz] at h1 ⊢ <;> omega, ?_⟩
    have hx : x ∈ p ++ x :: q := by simp
    have hn := h.name x hx
    have hk := h.kid x hx
    have hnd := h.nd
    have hni : ¬ x.1 ∈ p.map (·.1) := by
      rw [List.map_append, List.nodup_append] at hnd
      intro q2
      exact hnd.2.2 x.1 q2 x.1 (by simp) rfl
    have e1 := pyIn_str x.1 (p.map (·.1))
    rw [List.map_map] at e1
    have hs : sm p.length = true := sm_of (by have := h.six; simp at this; omega)
    rw [show p ++ x :: q = p ++ [x] ++ q by simp, ← h2]
    simp at hni
    by_cases hz : x.2 = 0
    · simp [Function.comp_def, hni] at e1
      simp [forG_cons, u_check_book_1, is_name_ok _ _ hn, e1, hni, hk.1, hk.2, hs, hz, fair, D.pl]
    · simp [Function.comp_def, hni] at e1
      simp [forG_cons, u_check_book_1, is_name_ok _ _ hn, e1, hni, hk.1, hk.2, hs, hz, fair, D.pl]
theorem check_book_ok (k : Nat) (sg : Sg) (h : sg.Ok) (s : Sto) : call prog (k + 3) F_check_book [.d sg.d] s = .ok (.d .non) s := by
  obtain ⟨c, h1, h2⟩ := check_book_loop (k + 1) (s.length + 1) s (.d sg.d) (sg.map fun x => .tup [.str x.1, .int x.2]) (by omega) sg [] h
  have hc : 0 < c := by
    obtain ⟨p, hp, hz⟩ := h.leaf
    have : 0 < sg.countP fun x => decide (x.2 = 0) := List.countP_pos_iff.mpr ⟨p, hp, by simp [hz]⟩
    simp at h1
    omega
  have hz : ¬ c = 0 := by omega
  have l1 : (1 : Int) ≤ sg.length := by have := h.pos; omega
  have l2 : (sg.length : Int) ≤ 6 := by have := h.six; omega
  rw [at_check_book]
  simp [Sg.d] at h2
  simp [runN_eq, b_check_book, Sg.d, l1, l2, h2, fair, D.pl, hz]
@[simp] theorem Book_init (k : Nat) (sg : Sg) (h : sg.Ok) (s : Sto) : call prog (k + 4) F_Book___init__ [.loc s.length, .d sg.d] (s ++ [.obj C_Book [] []]) = .ok (.d .non) (s ++ [.obj C_Book [A_names_told, A_kids_told] [.lst (sg.bk.ns.map .str), .lst (sg.bk.ks.map .int)]]) := by
  have l2 := h.six
  have h1 := lcG_map1 (c := cx prog (k + 3)) (n := s.length + 1) (tg := .tp [2, 3]) (g := (sg.map fun x => .tup [.str x.1, .int x.2], none)) (ifs := .nil) (elt := .v 2) (e := [some (.loc s.length), some (.d sg.d), none, none]) (s := s ++ [M.obj C_Book [] []]) (fun x => .tup [.str x.1, .int x.2]) (fun x => .str x.1) sg (by omega) (fun x _ acc r h => by simp [lcG_cons, lcA, h])
  have h2 := lcG_map1 (c := cx prog (k + 3)) (n := s.length + 1) (tg := .tp [2, 3]) (g := (sg.map fun x => .tup [.str x.1, .int x.2], none)) (ifs := .nil) (elt := .v 3) (e := [some (.loc s.length), some (.d sg.d), none, none]) (s := s ++ [M.obj C_Book [A_names_told] [.lst (sg.map fun x => .str x.1)]]) (fun x => .tup [.str x.1, .int x.2]) (fun x => .int x.2) sg (by omega) (fun x _ acc r h => by simp [lcG_cons, lcA, h])
  rw [at_Book___init__]
  simp [Sg.d] at h1 h2
  simp [runN_eq, b_Book___init__, check_book_ok _ sg h]
  simp [Sg.d, finC, h1, h2, putKs, putN, Sg.bk, Function.comp_def]
@[simp] theorem new_Book (k : Nat) (sg : Sg) (h : sg.Ok) (s : Sto) : newG (call prog (k + 4)) F_Book___init__ C_Book true [.d sg.d] s = .ok (.d (oBook sg.bk)) s := newG_ok (Book_init k sg h s)
end G

set_option maxRecDepth 10000
namespace TT
theorem gi_get {α : Type} [Inhabited α] {l : List α} {i : Int} (h0 : 0 ≤ i) (h1 : i < l.length) : l[i.toNat]? = some (gi l i) := by
  have : i.toNat < l.length := by omega
  simp [gi, List.getD, this]
/-- made rows that may be handed in -/
structure RowsOk (bk gl : Bk) (rows : List (List Mr)) : Prop where
  pos : 1 ≤ rows.length
  three : rows.length ≤ 3
  len : ∀ r ∈ rows, r.length = bk.ks.length
  mr : ∀ r ∈ rows, ∀ (i : Nat) (m : Mr), r[i]? = some m → MrOk gl.ks rows.length (gi bk.ks i) m ∧ m.size ≤ 8
theorem RowsOk.tn {bk gl : Bk} {rows : List (List Mr)} (h : RowsOk bk gl rows) (hb : bk.Ok) (hg : gl.Ok) : (⟨bk, gl, rows⟩ : Tn).Ok := by
  refine ⟨hb, hg, h.pos, h.len, ?_, by have := h.three; simp; omega, ?_⟩
  · intro st sg h0 h1 h2 h3
    have hm : gi rows st ∈ rows := gi_mem h0 h1
    have hl := h.len _ hm
    simp only at h3
    have : (gi rows st)[sg.toNat]? = some (gi (gi rows st) sg) := gi_get (by omega) (by omega)
    have := (h.mr _ hm _ _ this).1
    rw [show ((sg.toNat : Nat) : Int) = sg by omega] at this
    exact this
  · intro r hs m hm
    obtain ⟨i, hi⟩ := List.getElem?_of_mem hm
    have := (h.mr r hs i m hi).2
    omega
def rowsD (rows : List (List Mr)) : D := .lst (rows.map fun some => .lst (some.map mD))
end TT
namespace G
open TT
theorem made_row_loop (k n : Nat) (s : Sto) (gl : Bk) (hg : gl.Ok) (states kids : Int) (rw : W) (g0 : List D) (m : Mr) : ∀ (rest : List D) (w : Int), 1 ≤ w → MrOk gl.ks states kids m →
    forG (cx prog (k + 1)) n (.nm 5) [5] l_is_made_row_1 (g0, none) (m.row hD ++ rest) [some (.d (oBook gl)), some (.d (.int states)), some (.d (.int kids)), some rw, some (.d (.int w)), none] s = forG (cx prog (k + 1)) n (.nm 5) [5] l_is_made_row_1 (g0, none) rest [some (.d (oBook gl)), some (.d (.int states)), some (.d (.int kids)), some rw, some (.d (.int (w - 1))), none] s := by
  induction m with
  | v x =>
    intro rest w hw h
    have h1 := h.all
    have hw0 : ¬ w = 0 := by omega
    have a0 := h1.1.1
    have a1 := h1.1.2
    have a2 := h1.2.1
    have a3 := h1.2.2
    simp [T.row, hD, forG_cons, u_is_made_row_1, fair, D.pl, hw0, atI, ixOf, a0, a1, a2, a3]
  | z sg =>
    intro rest w hw h
    have h1 := h.ok
    have hw0 : ¬ w = 0 := by omega
    simp [T.row, forG_cons, u_is_made_row_1, fair, D.pl, hw0, hg.len, h1.1.1, h1.1.2, h1.2, Book_kids]
  | o sg a ih =>
    intro rest w hw h
    have h1 := h.ok
    have hw0 : ¬ w = 0 := by omega
    have := ih rest w hw ⟨h1.2.2, h.all⟩
    rw [← this]
    simp [T.row, forG_cons, u_is_made_row_1, fair, D.pl, hw0, hg.len, h1.1.1, h1.1.2, h1.2.1, Book_kids]
  | t sg a b iha ihb =>
    intro rest w hw h
    have h1 := h.ok
    have hw0 : ¬ w = 0 := by omega
    have e1 := iha (b.row hD ++ rest) (w + 1) (by omega) ⟨h1.2.2.1, h.all.1⟩
    have e2 := ihb rest w hw ⟨h1.2.2.2, h.all.2⟩
    rw [← e2]
    rw [show w + 1 - 1 = w by omega] at e1
    rw [← e1]
    simp [T.row, forG_cons, u_is_made_row_1, fair, D.pl, hw0, hg.len, h1.1.1, h1.1.2, h1.2.1, Book_kids]
    rw [show w - 1 + 2 = w + 1 by omega]
theorem is_made_row_ok (k : Nat) (s : Sto) (gl : Bk) (hg : gl.Ok) (states kids : Int) (m : Mr) (h : MrOk gl.ks states kids m) : call prog (k + 2) F_is_made_row [.d (oBook gl), .d (.int states), .d (.int kids), .d (mD m)] s = .ok (.d (.bl true)) s := by
  have e := made_row_loop k s.length s gl hg states kids (.d (mD m)) (m.row hD) m [] 1 (by omega) h
  rw [at_is_made_row]
  simp only [mD, List.append_nil] at e ⊢
  simp [runN_eq, b_is_made_row, e, fair, D.pl]
theorem turner_loop1 (k n : Nat) (s : Sto) (bk gl : Bk) (hb : bk.Ok) (hg : gl.Ok) (rows : List (List Mr)) (h : RowsOk bk gl rows) (sl : W) (w : D) (g : List D) (sm0 : List Mr) (hm : sm0 ∈ rows) : ∀ (q p : List Mr), sm0 = p ++ q →
    forG (cx prog (k + 3)) n (.tp [5, 6]) [5, 6] l_Turner___init___1 (g, none) (enumD p.length (q.map mD)) [some sl, some (.d (oBook bk)), some (.d (oBook gl)), some (.d (rowsD rows)), some (.d w), none, none] s = .ok (.nx, [some sl, some (.d (oBook bk)), some (.d (oBook gl)), some (.d (rowsD rows)), some (.d w), none, none]) s := by
  intro q
  induction q with
  | nil => intro p e; simp [enumD]
  | cons x q ih =>
    intro p e
    have := ih (p ++ [x]) (by simp [e])
    have hx := h.mr sm0 hm p.length x (by rw [e]; simp)
    have hl := h.len sm0 hm
    have b1 : (p.length : Int) < bk.ks.length := by rw [← hl, e]; simp; omega
    have b2 : ¬ (8 : Int) < (x.row hD).length := by rw [T.row_len]; omega
    have hmr := fun k s => is_made_row_ok k s gl hg rows.length (gi bk.ks p.length) x hx.1
    simp only [List.length_append, List.length_cons, List.length_nil] at this
    rw [← this]
    simp only [mD] at hmr ⊢
    simp [enumD, forG_cons, u_Turner___init___1, mD, b2, Book_kids _ bk _ (by omega : (0 : Int) ≤ p.length) b1, rowsD, hmr]
@[simp] theorem Turner_init (k : Nat) (bk gl : Bk) (hb : bk.Ok) (hg : gl.Ok) (rows : List (List Mr)) (h : RowsOk bk gl rows) (s : Sto) : call prog (k + 4) F_Turner___init__ [.loc s.length, .d (oBook bk), .d (oBook gl), .d (rowsD rows)] (s ++ [.obj C_Turner [] []]) = .ok (.d .non) (s ++ [.obj C_Turner [A_own_book, A_own_goals, A_own_rows] [oBook bk, oBook gl, rowsD rows]]) := by
  have l1 : (1 : Int) ≤ rows.length := by have := h.pos; omega
  have l2 : (rows.length : Int) ≤ 3 := by have := h.three; omega
  have e1 := forG_map (c := cx prog (k + 3)) (n := s.length + 1) (tg := .nm 4) (kill := [5, 6]) (body := l_Turner___init___2) (g := (rows.map fun some => D.lst (some.map mD), none))
    (fun some => D.lst (some.map mD)) (fun p => [some (.loc s.length), some (.d (oBook bk)), some (.d (oBook gl)), some (.d (rowsD rows)), p.getLast?.map fun some => .d (.lst (some.map mD)), none, none]) (fun _ => s ++ [.obj C_Turner [] []]) rows (fun p x q r e => by
      have hm : x ∈ rows := by rw [e]; simp
      have hl := h.len x hm
      have := turner_loop1 k (s.length + 1) (s ++ [.obj C_Turner [] []]) bk gl hb hg rows h (.loc s.length) (.lst (x.map mD)) (enumD 0 (x.map mD)) x hm x [] rfl
      simp at this
      simp [forG_cons, u_Turner___init___2, hl, hb.len, fair, D.pl, this])
  have e2 := lcG_map1 (c := cx prog (k + 3)) (n := s.length + 1) (tg := .nm 4) (g := (rows.map fun some => D.lst (some.map mD), none)) (ifs := .nil) (elt := .op true .list (.cons (.v 4) .nil)) (e := [some (.loc s.length), some (.d (oBook bk)), some (.d (oBook gl)), some (.d (rowsD rows)), none, none, none]) (s := s ++ [.obj C_Turner [A_own_book, A_own_goals] [oBook bk, oBook gl]]) (fun some => D.lst (some.map mD)) (fun some => D.lst (some.map mD)) rows (by omega) (fun x _ acc r h => by simp [lcG_cons, lcA, h])
  rw [at_Turner___init__]
  simp at e1 e2
  simp [runN_eq, b_Turner___init__, rowsD, l1, l2] at e1 e2 ⊢
  simp [e1, putKs, putN, finC, e2]
@[simp] theorem new_Turner (k : Nat) (bk gl : Bk) (hb : bk.Ok) (hg : gl.Ok) (rows : List (List Mr)) (h : RowsOk bk gl rows) (s : Sto) : newG (call prog (k + 4)) F_Turner___init__ C_Turner true [.d (oBook bk), .d (oBook gl), .d (rowsD rows)] s = .ok (.d (oTurner ⟨bk, gl, rows⟩)) s := newG_ok (Turner_init k bk gl hb hg rows h s)
end G

set_option maxRecDepth 10000
namespace G
open TT
theorem again_loop (k n : Nat) (s : Sto) (tn : Tn) (ht : tn.Ok) (he : tn.bk = tn.gl) (w w2 : W) (g : List D) : ∀ (m : Nat) (j : Int) (x : G0), x.Ok tn.bk.ks → x.size ≤ 200 →
    forG (cx prog (k + 7)) n (.nm 4) [4] l_again_1 (g, none) (rngD j (j + m)) [some (.d (oTurner tn)), some w, some w2, some (.d (tD x)), none] s = match agn (fun x => tn.turn x 0) m x with
      | some y => .ok (.nx, [some (.d (oTurner tn)), some w, some w2, some (.d (tD y)), none]) s
      | none => .err X_TooGreat s := by
  intro m
  induction m with
  | zero => intro j x hx hl; simp [rngD_nil, agn]
  | succ m ih =>
    intro j x hx hl
    have hn : 0 < tn.n := by have := ht.pos; unfold Tn.n; omega
    have hy : (tn.turn x 0).Ok tn.bk.ks := by rw [he]; exact Tn.turn_ok ht hx (by omega) hn
    rw [rngD_cons (by omega)]
    by_cases h : (tn.turn x 0).size ≤ 200
    · have := ih (j + 1) _ hy h
      rw [show j + 1 + (m : Int) = j + ((m : Int) + 1) by omega] at this
      simp [forG_cons, u_again_1, turned_by_eq ht _ _ x hx (by omega), h, agn, this]
    · simp [forG_cons, u_again_1, turned_by_eq ht _ _ x hx (by omega), h, agn]
/-- unlike books -/
theorem again_unlike (k : Nat) (tn : Tn) (h : tn.bk ≠ tn.gl) (x t : D) (s : Sto) : call prog (k + 8) F_again [.d (oTurner tn), .d x, .d t] s = .err X_Unlike s := by
  rw [at_again]
  simp [runN_eq, b_again, must_be_like_eq, h]
/-- no tree -/
theorem again_tree (k : Nat) (tn : Tn) (ht : tn.Ok) (h : tn.bk = tn.gl) (row : List Int) (hr : ¬ (row.length ≤ 40 ∧ endOf tn.bk.ks row 1 0 = row.length)) (hl : row.length < 1000000) (t : D) (s : Sto) : call prog (k + 8) F_again [.d (oTurner tn), .d (.tup (row.map .int)), .d t] s = .err X_NoTree s := by
  rw [at_again]
  simp [runN_eq, b_again, must_be_like_eq, ← h, check_tree_eq _ _ ht.bk row hl, hr]
/-- no number -/
theorem again_number (k : Nat) (tn : Tn) (ht : tn.Ok) (h : tn.bk = tn.gl) (x : G0) (hx : x.Ok tn.bk.ks) (hl : x.size ≤ 40) (t : Int) (hn : ¬ (0 ≤ t ∧ t ≤ 20)) (s : Sto) : call prog (k + 8) F_again [.d (oTurner tn), .d (tD x), .d (.int t)] s = .err X_NoNumber s := by
  rw [at_again]
  by_cases h0 : 0 ≤ t
  · have h1 : ¬ t ≤ 20 := fun q => hn ⟨h0, q⟩
    simp [runN_eq, b_again, must_be_like_eq, ← h, check_tree_ok _ _ ht.bk x hx hl, h0, h1]
  · simp [runN_eq, b_again, must_be_like_eq, ← h, check_tree_ok _ _ ht.bk x hx hl, h0]
theorem again_eq (k : Nat) (tn : Tn) (ht : tn.Ok) (h : tn.bk = tn.gl) (x : G0) (hx : x.Ok tn.bk.ks) (hl : x.size ≤ 40) (t : Nat) (hn : t ≤ 20) (s : Sto) : call prog (k + 8) F_again [.d (oTurner tn), .d (tD x), .d (.int t)] s = match agn (fun x => tn.turn x 0) t x with
      | some y => .ok (.d (tD y)) s
      | none => .err X_TooGreat s := by
  have e := again_loop k s.length s tn ht h (.d (tD x)) (.d (.int t)) (rngD 0 t) t 0 x hx (by omega)
  rw [Int.zero_add] at e
  have h1 : (t : Int) ≤ 20 := by omega
  have ho : okQ t = true := okQ_of (by omega) (by omega)
  rw [at_again]
  cases q : agn (fun x => tn.turn x 0) t x with
  | none =>
    rw [q] at e
    simp [runN_eq, b_again, must_be_like_eq, ← h, check_tree_ok _ _ ht.bk x hx hl, h1, ho, e]
  | some y =>
    rw [q] at e
    simp [runN_eq, b_again, must_be_like_eq, ← h, check_tree_ok _ _ ht.bk x hx hl, h1, ho, e]
end G

set_option maxRecDepth 10000
/-! idle, behind -/
namespace TT
/-- the made row that leaves a sign as it is -/
def baseM (ks : List Int) (sg : Int) : Mr := if gi ks sg = 0 then .z sg else if gi ks sg = 1 then .o sg (.v (0, 0)) else .t sg (.v (0, 0)) (.v (0, 1))
theorem baseM_ok {ks : List Int} (hk : ∀ k ∈ ks, 0 ≤ k ∧ k ≤ 2) {sg : Int} (h0 : 0 ≤ sg) (h1 : sg < ks.length) : MrOk ks 1 (gi ks sg) (baseM ks sg) ∧ (baseM ks sg).size ≤ 3 := by
  have := hk _ (gi_mem h0 h1)
  unfold baseM
  split
  · rename_i q; exact ⟨⟨⟨⟨h0, h1⟩, q⟩, trivial⟩, by simp [T.size]⟩
  · split
    · rename_i q; refine ⟨⟨⟨⟨h0, h1⟩, q, trivial⟩, ?_⟩, by simp [T.size]⟩
      rw [q]; simp [T.All]
    · rename_i q r
      have q : gi ks sg = 2 := by omega
      refine ⟨⟨⟨⟨h0, h1⟩, q, trivial, trivial⟩, ?_⟩, by simp [T.size]⟩
      rw [q]; simp [T.All]
def idleRows (b : Bk) : List (List Mr) := [(List.range b.ks.length).map fun (i : Nat) => baseM b.ks i]
theorem idle_rows {b : Bk} (hb : b.Ok) : RowsOk b b (idleRows b) := by
  refine ⟨by simp [idleRows], by simp [idleRows], by simp [idleRows], ?_⟩
  intro r hr i m hm
  simp [idleRows] at hr
  subst hr
  rw [List.getElem?_map] at hm
  cases q : (List.range b.ks.length)[i]? with
  | none => rw [q] at hm; cases hm
  | some j =>
  rw [q] at hm
  obtain ⟨h1, h2⟩ := List.getElem?_eq_some_iff.mp q
  simp at h1 h2 hm
  subst h2 hm
  have := baseM_ok hb.two (sg := i) (by omega) (by omega)
  exact ⟨by simpa [idleRows] using this.1, by omega⟩
end TT
namespace G
open TT
def mTurner (t : Tn) : M := .obj C_Turner [A_own_book, A_own_goals, A_own_rows] [oBook t.bk, oBook t.gl, rowsD t.rows]
theorem new_TurnerM (k : Nat) (bk gl : Bk) (hb : bk.Ok) (hg : gl.Ok) (rows : List (List Mr)) (h : RowsOk bk gl rows) (s : Sto) : newG (call prog (k + 4)) F_Turner___init__ C_Turner false [.d (oBook bk), .d (oBook gl), .d (rowsD rows)] s = .ok (.loc s.length) (s ++ [mTurner ⟨bk, gl, rows⟩]) := newG_mut (Turner_init k bk gl hb hg rows h s)
theorem idle_loop (k n : Nat) (s : Sto) (b : Bk) (hb : b.Ok) (g : List D) : ∀ (d j : Nat), j + d = b.ks.length →
    forG (cx prog (k + 1)) n (.nm 2) [2] l_idle_1 (g, none) (rngD j b.ks.length) [some (.d (oBook b)), some (.loc s.length), none, none] (s ++ [.lst ((List.range j).map fun (i : Nat) => mD (baseM b.ks i))]) = .ok (.nx, [some (.d (oBook b)), some (.loc s.length), none, none]) (s ++ [.lst ((List.range b.ks.length).map fun (i : Nat) => mD (baseM b.ks i))]) := by
  intro d
  induction d with
  | zero =>
    intro j hj
    have : j = b.ks.length := by omega
    subst this
    simp [rngD_nil]
  | succ d ih =>
    intro j hj
    have h6 := hb.six
    have hs : sm j = true := sm_of (by omega)
    have h := hb.two _ (gi_mem (ks := b.ks) (x := j) (by omega) (by omega))
    have ho2 : okQ (gi b.ks j) = true := okQ_of (by omega) (by omega)
    have bk := fun s => Book_kids k b j (by omega) (by omega) s
    rw [rngD_cons (by omega), ← ih (j + 1) (by omega)]
    have : gi b.ks j = 0 ∨ gi b.ks j = 1 ∨ gi b.ks j = 2 := by omega
    rcases this with q | q | q
    · rw [q] at ho2
      simp -implicitDefEqProofs [Nat.add_assoc, forG_cons, u_idle_1, bk, q, ho2, rngD00, finC, hs, List.range_succ, baseM, mD, T.row]
    · rw [q] at ho2
      simp -implicitDefEqProofs [Nat.add_assoc, forG_cons, u_idle_1, bk, q, ho2, rngD01, lcG_cons, lcA, finC, hs, List.range_succ, baseM, mD, T.row, hD]
    · rw [q] at ho2
      simp -implicitDefEqProofs [Nat.add_assoc, forG_cons, u_idle_1, bk, q, ho2, rngD02, lcG_cons, lcA, finC, hs, List.range_succ, baseM, mD, T.row, hD]
theorem idle_eq (k : Nat) (s : Sto) (b : Bk) (hb : b.Ok) : call prog (k + 6) F_idle [.d (oBook b)] s = .ok (.loc s.length) (s ++ [mTurner ⟨b, b, idleRows b⟩]) := by
  have e := idle_loop (k + 4) (s.length + 1) s b hb (rngD 0 b.ks.length) b.ks.length 0 (by omega)
  have ho : okQ b.ks.length = true := okQ_of (by omega) (by have := hb.six; omega)
  have nt := fun s => new_TurnerM k b b hb hb (idleRows b) (idle_rows hb) s
  simp only [idleRows, rowsD, List.map_cons, List.map_nil] at nt
  rw [at_idle]
  simp -implicitDefEqProofs [Nat.add_assoc, ] at e nt
  simp -implicitDefEqProofs [Nat.add_assoc, runN_eq, b_idle, hb.len, ho, e, freeze, unName]
  simp -implicitDefEqProofs [Nat.add_assoc, Function.comp_def] at nt ⊢
  simp -implicitDefEqProofs [Nat.add_assoc, nt, leave_loc, idleRows, mTurner]

theorem with_rows_eq (k : Nat) (s : Sto) (tn : Tn) (gl : Bk) (rows : D) : call prog (k + 1) F_Turner_with_rows [.loc s.length, .d (oBook gl), .d rows] (s ++ [mTurner tn]) = .ok (.loc s.length) (s ++ [.obj C_Turner [A_own_book, A_own_goals, A_own_rows] [oBook tn.bk, oBook gl, rows]]) := by
  rw [at_Turner_with_rows]
  simp -implicitDefEqProofs [Nat.add_assoc, runN_eq, b_Turner_with_rows, mTurner, putKs, putN, leave_loc]
/-! Behind -/
def oBehind (t : Tn) : D := .obj C_Behind [A_own_states, A_own_through] [.int t.n, oThrough t (oBuilt 60)]
@[simp] theorem objOf_oBehind (t : Tn) (s : Sto) : objOf s (.d (oBehind t)) = some (C_Behind, [A_own_states, A_own_through], [.int t.n, oThrough t (oBuilt 60)]) := rfl
theorem new_Behind (k : Nat) (t : Tn) (s : Sto) : newG (call prog (k + 3)) F_Behind___init__ C_Behind true [.d (oTurner t)] s = .ok (.d (oBehind t)) s := newG_ok (by
  rw [at_Behind___init__]
  simp -implicitDefEqProofs [Nat.add_assoc, runN_eq, b_Behind___init__, putKs, putN])
/-- what the holes of a row are given -/
theorem behind_given (k n : Nat) (s : Sto) (other : Tn) (hn : 0 ≤ other.n ∧ other.n ≤ 4000) (w1 w2 w3 : Option W) (g : List D) (m : Mr) : ∀ (rest ks vs : List D) (f : D → Option D), DictIs ks vs f → ks.length + m.size ≤ 9000 →
    ∃ ks' vs' f', forG (cx prog (k + 1)) n (.nm 5) [5] l_Behind_made_row_1 (g, none) (m.row hD ++ rest) [some (.d (oBehind other)), w1, w2, w3, some (.loc s.length), none, none] (s ++ [.dct 1 ks vs]) = forG (cx prog (k + 1)) n (.nm 5) [5] l_Behind_made_row_1 (g, none) rest [some (.d (oBehind other)), w1, w2, w3, some (.loc s.length), none, none] (s ++ [.dct 1 ks' vs']) ∧ DictIs ks' vs' f' ∧ ks'.length ≤ ks.length + m.size ∧ (∀ x, f (hD x) = some (tEnc other lvB (bEnc 60 hD2) (.v x)) → f' (hD x) = some (tEnc other lvB (bEnc 60 hD2) (.v x))) ∧ m.All fun x => f' (hD x) = some (tEnc other lvB (bEnc 60 hD2) (.v x)) := by
  induction m with
  | v x =>
    intro rest ks vs f hf hl
    simp only [T.size] at hl
    have hp := putKs_len (hD x) ks
    have e := lcG_map1 (c := cx prog (k + 1)) (n := s.length + 1) (tg := .nm 6) (g := (rngD 0 other.n, none)) (ifs := .nil) (elt := .tup (.cons (.k (.int 1)) (.cons (.tup (.cons (.tup (.cons (.tup (.cons (.op true .ix (.cons (.v 5) (.cons (.k (.int 0)) .nil))) (.cons (.v 6) .nil))) (.cons (.op true .ix (.cons (.v 5) (.cons (.k (.int 1)) .nil))) .nil))) .nil)) .nil)))
      (e := [some (.d (oBehind other)), w1, w2, w3, some (.loc s.length), some (.d (hD x)), none]) (s := s ++ [.dct 1 ks vs]) (fun (i : Nat) => D.int i) (fun (i : Nat) => bEnc 60 hD2 (lvB i x)) (List.range other.n.toNat) (by simp; omega) (fun i hi acc r ha => by
        simp -implicitDefEqProofs [Nat.add_assoc, lcG_cons, lcA, ha, hD, atI_zero, atI_one, bEnc, lvB, T.size, T.row, hD2])
    have e0 : ((List.range other.n.toNat).map fun (i : Nat) => D.int i) = rngD 0 other.n := by
      rw [← rngD_nat, show ((other.n.toNat : Nat) : Int) = other.n by omega]
    rw [e0] at e
    have hq : keysOk 1 (hD x) = true := rfl
    have hs : sm ks.length = true := sm_of (by omega)
    have ho : okQ other.n = true := okQ_of (by omega) (by omega)
    refine ⟨_, _, _, ?_, hf.put (hD x) (tEnc other lvB (bEnc 60 hD2) (.v x)), by simp only [T.size]; omega, fun y hy => ?_, ?_⟩
    · simp -implicitDefEqProofs [Nat.add_assoc, ] at e
      simp -implicitDefEqProofs [Nat.add_assoc, T.row, forG_cons, u_Behind_made_row_1]
      simp only [hD] at e hq ⊢
      simp -implicitDefEqProofs [Nat.add_assoc, look_cons, ho, e, finC, hq, hs]
      rfl
    · split
      · rename_i q; rw [hD_inj] at q; rw [q]
      · exact hy
    · show _ = _
      rw [if_pos rfl]
  | z sg =>
    intro rest ks vs f hf hl
    exact ⟨ks, vs, f, by simp -implicitDefEqProofs [Nat.add_assoc, T.row, forG_cons, u_Behind_made_row_1], hf, by simp [T.size], fun _ h => h, trivial⟩
  | o sg a ih =>
    intro rest ks vs f hf hl
    simp only [T.size] at hl
    obtain ⟨ks', vs', f', e, h1, h2, h3, h4⟩ := ih rest ks vs f hf (by omega)
    exact ⟨ks', vs', f', by rw [← e]; simp -implicitDefEqProofs [Nat.add_assoc, T.row, forG_cons, u_Behind_made_row_1], h1, by simp only [T.size]; omega, h3, h4⟩
  | t sg a b iha ihb =>
    intro rest ks vs f hf hl
    simp only [T.size] at hl
    obtain ⟨k1, v1, f1, e1, h1, h2, h3, h4⟩ := iha (b.row hD ++ rest) ks vs f hf (by omega)
    obtain ⟨k2, v2, f2, e2, g1, g2, g3, g4⟩ := ihb rest k1 v1 f1 h1 (by omega)
    exact ⟨k2, v2, f2, by rw [← e2, ← e1]; simp -implicitDefEqProofs [Nat.add_assoc, T.row, forG_cons, u_Behind_made_row_1], g1, by simp only [T.size]; omega, fun x hx => g3 x (h3 x hx), T.All.mono (fun x hx => g3 x hx) h4, g4⟩
end G

set_option maxRecDepth 10000
namespace TT
theorem nodup_lt : ∀ (n : Nat) (l : List Nat), l.Nodup → (∀ x ∈ l, x < n) → l.length ≤ n
  | 0, [], _, _ => Nat.le_refl _
  | 0, x :: l, _, h => absurd (h x (by simp)) (by omega)
  | n + 1, l, nd, h => by
    have h1 := nodup_lt n (l.erase n) (nd.erase n) (fun x hx => by
      have := h x (List.mem_of_mem_erase hx)
      have : x ≠ n := fun e => by
        subst e
        exact (List.Nodup.mem_erase_iff nd).mp hx |>.1 rfl
      omega)
    have := List.length_erase (a := n) (l := l)
    split at this <;> omega
theorem pairs_few {P : List (Int × Int)} (nd : P.Nodup) {a b : Nat} (h : ∀ x ∈ P, (0 ≤ x.1 ∧ x.1 < a) ∧ (0 ≤ x.2 ∧ x.2 < b)) : P.length ≤ a * b := by
  have h1 := nodup_lt (a * b) (P.map fun x => x.1.toNat * b + x.2.toNat) ?_ ?_
  · simpa using h1
  · rw [List.Nodup, List.pairwise_map]
    refine List.Pairwise.imp_of_mem (fun {x y} hx hy ne e => ne ?_) nd
    obtain ⟨⟨x1, x2⟩, x3, x4⟩ := h x hx
    obtain ⟨⟨y1, y2⟩, y3, y4⟩ := h y hy
    have m1 : x.2.toNat < b := by omega
    have m2 : y.2.toNat < b := by omega
    have e1 : x.1.toNat = y.1.toNat := by
      have : (x.1.toNat * b + x.2.toNat) / b = (y.1.toNat * b + y.2.toNat) / b := congrArg (· / b) e
      rw [Nat.mul_comm, Nat.mul_add_div (by omega), Nat.mul_comm, Nat.mul_add_div (by omega), Nat.div_eq_of_lt m1, Nat.div_eq_of_lt m2] at this
      simpa using this
    have e2 : x.2.toNat = y.2.toNat := by rw [e1] at e; omega
    exact Prod.ext (by omega) (by omega)
  · intro z hz
    obtain ⟨x, hx, rfl⟩ := List.mem_map.mp hz
    obtain ⟨⟨x1, x2⟩, x3, x4⟩ := h x hx
    have m1 : x.1.toNat + 1 ≤ a := by omega
    have m2 : x.2.toNat < b := by omega
    have := Nat.mul_le_mul_right b m1
    rw [Nat.add_mul] at this
    omega
/-- pairs that are new put behind -/
def addP (P : List (Int × Int)) (l : List Hl) : List (Int × Int) := l.foldl (fun P y => if y.1 ∈ P then P else P ++ [y.1]) P
theorem addP_app (P : List (Int × Int)) (a b : List Hl) : addP P (a ++ b) = addP (addP P a) b := by unfold addP; rw [List.foldl_append]
theorem addP_spec : ∀ (l : List Hl) (P : List (Int × Int)), P.Nodup → (addP P l).Nodup ∧ (∃ X, addP P l = P ++ X) ∧ (∀ y ∈ l, y.1 ∈ addP P l) ∧ ∀ x ∈ addP P l, x ∈ P ∨ ∃ y ∈ l, y.1 = x
  | [], P, nd => ⟨nd, ⟨[], by simp [addP]⟩, by simp, fun x hx => .inl hx⟩
  | y :: l, P, nd => by
    have e : addP P (y :: l) = addP (if y.1 ∈ P then P else P ++ [y.1]) l := rfl
    rw [e]
    split
    · rename_i hy
      obtain ⟨h1, ⟨X, h2⟩, h3, h4⟩ := addP_spec l P nd
      refine ⟨h1, ⟨X, h2⟩, ?_, ?_⟩
      · intro z hz
        rcases List.mem_cons.mp hz with rfl | hz
        · rw [h2]; simp [hy]
        · exact h3 z hz
      · intro x hx
        rcases h4 x hx with h | ⟨z, hz, rfl⟩
        · exact .inl h
        · exact .inr ⟨z, by simp [hz], rfl⟩
    · rename_i hy
      have nd' : (P ++ [y.1]).Nodup := by
        rw [List.nodup_append]
        exact ⟨nd, by simp, fun a ha b hb => by
          simp at hb
          subst hb
          exact fun q => hy (q ▸ ha)⟩
      obtain ⟨h1, ⟨X, h2⟩, h3, h4⟩ := addP_spec l (P ++ [y.1]) nd'
      refine ⟨h1, ⟨y.1 :: X, by rw [h2]; simp⟩, ?_, ?_⟩
      · intro z hz
        rcases List.mem_cons.mp hz with rfl | hz
        · rw [h2]; simp
        · exact h3 z hz
      · intro x hx
        rcases h4 x hx with h | ⟨z, hz, rfl⟩
        · rcases List.mem_append.mp h with h | h
          · exact .inl h
          · simp at h
            exact .inr ⟨y, by simp, h.symm⟩
        · exact .inr ⟨z, by simp [hz], rfl⟩
theorem addP_len : ∀ (l : List Hl) (P : List (Int × Int)), (addP P l).length ≤ P.length + l.length
  | [], P => by simp [addP]
  | y :: l, P => by
    have e : addP P (y :: l) = addP (if y.1 ∈ P then P else P ++ [y.1]) l := rfl
    rw [e]
    have := addP_len l (if y.1 ∈ P then P else P ++ [y.1])
    split at this
    · rename_i h; rw [if_pos h]; simp; omega
    · rename_i h; rw [if_neg h]; simp at this ⊢; omega
theorem T.vs_len {V : Type} (m : T V) : m.vs.length ≤ m.size := by
  induction m <;> simp_all [T.vs, T.size] <;> omega
theorem pl_hD (b : Bool) (x : Int × Int) (n : Nat) : D.pl false (n + 1) (hD x) = true := by
  cases n <;> simp [hD, D.pl, Ds.pl]
theorem pyIn_hD (x : Int × Int) (P : List (Int × Int)) : pyIn (hD x) (P.map hD) = some (decide (x ∈ P)) := by
  have h1 : Ds.pl false 12 (P.map hD) = true := by
    induction P with
    | nil => rfl
    | cons y P ih => simp only [List.map_cons, Ds.pl, pl_hD true y 11, ih, Bool.true_and]
  unfold pyIn
  rw [pl_hD true x 11, h1]
  simp only [Bool.true_and, Bool.true_or, if_true, Option.some.injEq, decide_eq_decide, List.mem_map]
  exact ⟨fun ⟨y, hy, e⟩ => by rw [hD_inj] at e; rw [← e]; exact hy, fun h => ⟨x, h, rfl⟩⟩
end TT
namespace G
open TT
theorem made_row_eq (k : Nat) (s : Sto) {other : Tn} (ho : other.Ok) (bk : Bk) (hb : bk = other.bk) (m : Mr) (hm : m.Ok other.bk.ks) (hl : m.size ≤ 5000) (q : Int) (q0 : 0 ≤ q) (q1 : q < other.n) : call prog (k + 7) F_Behind_made_row [.d (oBehind other), .d (oBook bk), .d (mD m), .d (.int q)] s = if (turn other.mr lvB m q).size ≤ 60 then .ok (.d (.tup ((turn other.mr lvB m q).row hD2))) s else .err X_TooGreat s := by
  subst hb
  have hn : 0 ≤ other.n ∧ other.n ≤ 4000 := by have := ho.most; unfold Tn.n; omega
  have H1 := built_hand (U := Hl) 60 (by omega) hD2 other.gl.ks
  have H2 := through_hand (K := 0) ho H1 lvB (fun _ _ _ _ => trivial)
  obtain ⟨ks, vs, f, e1, h1, h2, h3, h4⟩ := behind_given (k + 5) (s.length + 1) s other hn (some (.d (oBook other.bk))) (some (.d (mD m))) (some (.d (.int q))) (m.row hD) m [] [] [] _ DictIs.nil (by simp; omega)
  have e2 := folded_eq (K := 3) ho.bk H2 (k + 1) (s ++ [.dct 1 ks vs]) (.loc s.length) ks vs (by intro r; simp) .v m hm (h4.mono fun x hx => ⟨trivial, by rw [h1.get]; exact hx⟩) (by omega)
  rw [T.sub_v] at e2
  have e3 : atI (states other.n fun st => bEnc 60 hD2 (turn other.mr lvB m st)) q = some (bEnc 60 hD2 (turn other.mr lvB m q)) := by
    rw [atI_ok q0 (by rw [states_len]; omega), gi_states q0 q1]
  rw [at_Behind_made_row]
  simp -implicitDefEqProofs [Nat.add_assoc, mD] at e1 e2
  by_cases h : (turn other.mr lvB m q).size ≤ 60
  · have h' : ((turn other.mr lvB m q).size : Int) ≤ 60 := by omega
    simp -implicitDefEqProofs [Nat.add_assoc, runN_eq, b_Behind_made_row, mD, e1, look_cons, e2, tEnc, e3]
    simp -implicitDefEqProofs [Nat.add_assoc, bEnc, told_row_eq, h, h']
  · have h' : ¬ ((turn other.mr lvB m q).size : Int) ≤ 60 := by omega
    simp -implicitDefEqProofs [Nat.add_assoc, runN_eq, b_Behind_made_row, mD, e1, look_cons, e2, tEnc, e3]
    simp -implicitDefEqProofs [Nat.add_assoc, bEnc, told_row_eq, h, h']
theorem pairs_loop (k n : Nat) (p1 p2 s : Sto) (w : List (Option W)) (g : List D) (w0 w1 w2 w4 w5 w6 w7 w8 w9 w10 : Option W) (m : T Hl) : ∀ (rest : List D) (P : List (Int × Int)), P.length + m.size ≤ 9000 →
    forG (cx prog k) n (.nm 11) [11] l_behind_1 (g, none) (m.row hD2 ++ rest) [w0, w1, w2, some (.loc s.length), w4, w5, w6, w7, w8, w9, w10, none] (s ++ .lst (P.map hD) :: p1) = forG (cx prog k) n (.nm 11) [11] l_behind_1 (g, none) rest [w0, w1, w2, some (.loc s.length), w4, w5, w6, w7, w8, w9, w10, none] (s ++ .lst ((addP P m.vs).map hD) :: p1) := by
  induction m with
  | v y =>
    intro rest P hl
    simp only [T.size] at hl
    have hs : sm P.length = true := sm_of (by omega)
    have hi := pyIn_hD y.1 P
    by_cases h : y.1 ∈ P
    · simp [T.row, hD2, forG_cons, u_behind_1, hi, h, addP, T.vs]
    · simp [T.row, hD2, forG_cons, u_behind_1, hi, h, addP, T.vs, hs]
  | z sg => intro rest P hl; simp [T.row, forG_cons, u_behind_1, addP, T.vs]
  | o sg a ih =>
    intro rest P hl
    simp only [T.size] at hl
    have := ih rest P (by omega)
    simp [T.row, forG_cons, u_behind_1, T.vs, this]
  | t sg a b iha ihb =>
    intro rest P hl
    simp only [T.size] at hl
    have h1 := iha (b.row hD2 ++ rest) P (by omega)
    have hl2 : (addP P a.vs).length ≤ P.length + a.size := by have := addP_len a.vs P; have := a.vs_len; omega
    have h2 := ihb rest (addP P a.vs) (by omega)
    simp [T.row, forG_cons, u_behind_1, T.vs, h1, h2, addP_app]
end G

set_option maxRecDepth 10000
/-! behind -/
namespace TT
variable {V U : Type}
theorem o_index_hD (s : Sto) (x : W) (P : List (Int × Int)) (hx : lstOf s x = some (P.map hD)) (y : Int × Int) (hy : y ∈ P) : opSem .index [x, .d (hD y)] s = .ok (.w (.d (.int (P.idxOf y : Nat)))) s := by
  have h1 := pyIn_hD y P
  have h2 : hD y ∈ P.map hD := List.mem_map.mpr ⟨y, hy, rfl⟩
  have h3 : D.ns (hD y) = true := rfl
  have h4 : Ds.ns (P.map hD) = true := by
    clear h1 h2 hx hy
    induction P with
    | nil => rfl
    | cons z P ih => rw [List.map_cons, Ds.ns, ih]; rfl
  have h5 : (P.map hD).idxOf (hD y) = P.idxOf y := by
    clear h1 h2 h4 hx hy
    induction P with
    | nil => rfl
    | cons z P ih =>
      rw [List.map_cons, List.idxOf_cons, List.idxOf_cons, ih]
      by_cases q : z = y
      · subst q; simp
      · have : hD z ≠ hD y := fun e => q (hD_inj.mp e)
        rw [beq_false_of_ne this, beq_false_of_ne q]
  simp only [opSem, indexS, hx, h1, h2, h3, h4, Option.isSome_some, decide_true, Bool.and_self, Bool.or_true, if_true, int1, h5]
theorem turn_in {t : Tn} (ht : t.Ok) {lv : Int → V → T U} {p : U → Prop} (x : T V) : (x.All fun v => ∀ st, 0 ≤ st → st < t.n → (lv st v).All p) → x.Ok t.bk.ks → ∀ st, 0 ≤ st → st < t.n → (turn t.mr lv x st).All p := by
  induction x with
  | v x => intro hl _ st h0 h1; exact hl st h0 h1
  | z s =>
    intro hl hx st h0 h1
    have hm := ht.mr st s h0 h1 hx.1.1 hx.1.2
    exact T.sub_all (hm.all.mono fun x h => by have := hx.2; omega)
  | o s a ih =>
    intro hl hx st h0 h1
    have hm := ht.mr st s h0 h1 hx.1.1 hx.1.2
    exact T.sub_all (hm.all.mono fun x h => ih hl hx.2.2 _ h.1.1 h.1.2)
  | t s a b iha ihb =>
    intro hl hx st h0 h1
    have hm := ht.mr st s h0 h1 hx.1.1 hx.1.2
    refine T.sub_all (hm.all.mono fun x h => ?_)
    split
    · exact iha hl.1 hx.2.2.1 _ h.1.1 h.1.2
    · exact ihb hl.2 hx.2.2.2 _ h.1.1 h.1.2
def StOk (one other : Tn) (x : Int × Int) : Prop := (0 ≤ x.1 ∧ x.1 < one.n) ∧ (0 ≤ x.2 ∧ x.2 < other.n)
theorem bRow_st {one other : Tn} (h1 : one.Ok) (h2 : other.Ok) (hb : one.gl = other.bk) {pq : Int × Int} (hp : StOk one other pq) {sg : Int} (s0 : 0 ≤ sg) (s1 : sg < one.bk.ks.length) : (bRow one other pq sg).All fun y => StOk one other y.1 := by
  have hm := h1.mr pq.1 sg hp.1.1 hp.1.2 s0 s1
  refine turn_in h2 (lv := lvB) (p := fun y : Hl => StOk one other y.1) _ (hm.all.mono ?_) (hb ▸ hm.ok) _ hp.2.1 hp.2.2
  intro x hx st a b
  exact ⟨hx.1, a, b⟩
theorem bRow_ok {one other : Tn} (h1 : one.Ok) (h2 : other.Ok) (hb : one.gl = other.bk) {pq : Int × Int} (hp : StOk one other pq) {sg : Int} (s0 : 0 ≤ sg) (s1 : sg < one.bk.ks.length) : (bRow one other pq sg).Ok other.gl.ks := by
  have hm := h1.mr pq.1 sg hp.1.1 hp.1.2 s0 s1
  exact turn_ok h2 (lv := lvB) (fun _ _ _ _ => trivial) _ (hb ▸ hm.ok) _ hp.2.1 hp.2.2
/-- pairs that are states, each once -/
structure PIn (one other : Tn) (P : List (Int × Int)) : Prop where
  nd : P.Nodup
  st : ∀ x ∈ P, StOk one other x
theorem PIn.few {one other : Tn} {P : List (Int × Int)} (h : PIn one other P) (hn : one.rows.length * other.rows.length ≤ 1000) : P.length ≤ 1000 := by
  have := pairs_few h.nd (a := one.rows.length) (b := other.rows.length) h.st
  omega
def bD (one other : Tn) (pq : Int × Int) (sg : Int) : D := .tup ((bRow one other pq sg).row hD2)
def bsD (one other : Tn) (pq : Int × Int) : D := .lst ((List.range one.bk.ks.length).map fun (i : Nat) => bD one other pq i)
/-- rows that are made are led on by pairs -/
def BDone (one other : Tn) (P : List (Int × Int)) (pq : Int × Int) (sg : Int) : Prop := ((bRow one other pq sg).All fun y => y.1 ∈ P) ∧ (bRow one other pq sg).size ≤ 60
theorem BDone.mono {one other : Tn} {P X : List (Int × Int)} {pq : Int × Int} {sg : Int} (h : BDone one other P pq sg) : BDone one other (P ++ X) pq sg := ⟨h.1.mono fun y hy => List.mem_append_left _ hy, h.2⟩
end TT
namespace G
open TT
theorem numbered_loop (k n : Nat) (p r s : Sto) (w0 : W) (g : List D) (P : List (Int × Int)) (hs : s = p ++ .lst (P.map hD) :: r) (m : T Hl) : ∀ (rest acc : List D), (m.All fun y => y.1 ∈ P) → acc.length + m.size ≤ 9000 →
    forG (cx prog k) n (.nm 3) [3] l_numbered_1 (g, none) (m.row hD2 ++ rest) [some w0, some (.loc p.length), some (.loc s.length), none] (s ++ [.lst acc]) = forG (cx prog k) n (.nm 3) [3] l_numbered_1 (g, none) rest [some w0, some (.loc p.length), some (.loc s.length), none] (s ++ [.lst (acc ++ (m.sub fun y => .v (((P.idxOf y.1 : Nat) : Int), y.2)).row hD)]) := by
  have hx : ∀ q, lstOf (s ++ q) (.loc p.length) = some (P.map hD) := fun q => by subst hs; simp
  have hx2 : ∀ q, (s ++ q)[p.length]? = some (.lst (P.map hD)) := fun q => by subst hs; simp
  clear hs
  induction m with
  | v y =>
    intro rest acc ha hl
    simp only [T.size] at hl
    have hm : sm acc.length = true := sm_of (by omega)
    have e := fun q => o_index_hD (s ++ q) _ P (hx q) y.1 ha
    simp -implicitDefEqProofs [Nat.add_assoc, T.row, hD2, forG_cons, u_numbered_1, e, T.sub, hD, hm]
    simp only [hD] at e
    have e2 := e [.lst acc]
    simp -implicitDefEqProofs [Nat.add_assoc, hx2]
    rw [e2]
    simp -implicitDefEqProofs [Nat.add_assoc, hm]
  | z sg =>
    intro rest acc ha hl
    simp only [T.size] at hl
    have hm : sm acc.length = true := sm_of (by omega)
    simp -implicitDefEqProofs [Nat.add_assoc, T.row, forG_cons, u_numbered_1, T.sub, hm]
  | o sg a ih =>
    intro rest acc ha hl
    simp only [T.size] at hl
    have hm : sm acc.length = true := sm_of (by omega)
    have := ih rest (acc ++ [.int sg]) ha (by simp; omega)
    simp -implicitDefEqProofs [Nat.add_assoc, ] at this
    simp -implicitDefEqProofs [Nat.add_assoc, T.row, forG_cons, u_numbered_1, T.sub, hm, this]
  | t sg a b iha ihb =>
    intro rest acc ha hl
    simp only [T.size] at hl
    have hm : sm acc.length = true := sm_of (by omega)
    have h1 := iha (b.row hD2 ++ rest) (acc ++ [.int sg]) ha.1 (by simp; omega)
    have h2 := ihb rest (acc ++ [.int sg] ++ (a.sub fun y => .v (((P.idxOf y.1 : Nat) : Int), y.2)).row hD) ha.2 (by have := T.sub_size (fun y : Hl => (T.v (((P.idxOf y.1 : Nat) : Int), y.2) : Mr)) (fun _ => rfl) a; simp [T.row_len]; omega)
    simp -implicitDefEqProofs [Nat.add_assoc, ] at h1 h2
    simp -implicitDefEqProofs [Nat.add_assoc, T.row, forG_cons, u_numbered_1, T.sub, hm, h1, h2]
theorem numbered_eq (k : Nat) (p r : Sto) (P : List (Int × Int)) (m : T Hl) (hm : m.All fun y => y.1 ∈ P) (hl : m.size ≤ 9000) : call prog (k + 1) F_numbered [.d (.tup (m.row hD2)), .loc p.length] (p ++ .lst (P.map hD) :: r) = .ok (.d (mD (m.sub fun y => .v (((P.idxOf y.1 : Nat) : Int), y.2)))) (p ++ .lst (P.map hD) :: r) := by
  have e := numbered_loop k ((p ++ .lst (P.map hD) :: r).length + 1) p r _ (.d (.tup (m.row hD2))) (m.row hD2) P rfl m [] [] hm (by simpa using hl)
  rw [at_numbered]
  simp -implicitDefEqProofs [Nat.add_assoc, ] at e
  simp -implicitDefEqProofs [Nat.add_assoc, runN_eq, b_numbered, e, mD]
theorem behind_signs (k n : Nat) (s : Sto) (one other : Tn) (h1 : one.Ok) (h2 : other.Ok) (hb : one.gl = other.bk) (hn : one.rows.length * other.rows.length ≤ 1000) (pq : Int × Int) (hp : StOk one other pq) (rws : List D) (g : List D) : ∀ (d j : Nat) (P : List (Int × Int)) (w10 : Option W), j + d = one.bk.ks.length → PIn one other P → (∀ l, w10 ≠ some (.loc l)) →
    (∃ P' w10', (∀ l, w10' ≠ some (.loc l)) ∧ forG (cx prog (k + 7)) n (.nm 7) [7, 11] l_behind_2 (g, none) (rngD j one.bk.ks.length) [some (.d (oTurner one)), some (.d (oTurner other)), some (.d (oBehind other)), some (.loc s.length), some (.loc (s.length + 1)), none, some (.loc (s.length + 2)), none, some (.d (.int pq.1)), some (.d (.int pq.2)), w10, none] (s ++ [.lst (P.map hD), .lst rws, .lst ((List.range j).map fun (i : Nat) => bD one other pq i)])
      = .ok (.nx, [some (.d (oTurner one)), some (.d (oTurner other)), some (.d (oBehind other)), some (.loc s.length), some (.loc (s.length + 1)), none, some (.loc (s.length + 2)), none, some (.d (.int pq.1)), some (.d (.int pq.2)), w10', none]) (s ++ [.lst (P'.map hD), .lst rws, .lst ((List.range one.bk.ks.length).map fun (i : Nat) => bD one other pq i)]) ∧ PIn one other P' ∧ (∃ X, P' = P ++ X) ∧ ∀ sg : Nat, j ≤ sg → sg < one.bk.ks.length → BDone one other P' pq sg) ∨
    (∃ s', forG (cx prog (k + 7)) n (.nm 7) [7, 11] l_behind_2 (g, none) (rngD j one.bk.ks.length) [some (.d (oTurner one)), some (.d (oTurner other)), some (.d (oBehind other)), some (.loc s.length), some (.loc (s.length + 1)), none, some (.loc (s.length + 2)), none, some (.d (.int pq.1)), some (.d (.int pq.2)), w10, none] (s ++ [.lst (P.map hD), .lst rws, .lst ((List.range j).map fun (i : Nat) => bD one other pq i)]) = .err X_TooGreat s' ∧ s'.take s.length = s) := by
  intro d
  induction d with
  | zero =>
    intro j P w10 hj hP hw
    have : j = one.bk.ks.length := by omega
    subst this
    exact .inl ⟨P, w10, hw, by simp [rngD_nil], hP, ⟨[], by simp⟩, fun sg a b => by omega⟩
  | succ d ih =>
    intro j P w10 hj hP hw
    have h6 := h1.bk.six
    have hs : sm j = true := sm_of (by omega)
    have j0 : (0 : Int) ≤ j := by omega
    have j1 : (j : Int) < one.bk.ks.length := by omega
    have hm := h1.mr pq.1 j hp.1.1 hp.1.2 j0 j1
    have hz := Tn.mr_size h1 hp.1.1 hp.1.2 j0 j1
    have hr := fun s => Turner_row (k + 6) h1 hp.1.1 hp.1.2 j0 j1 s
    have mk := fun s => made_row_eq k s h2 one.gl hb (one.mr pq.1 j) (hb ▸ hm.ok) hz pq.2 hp.2.1 hp.2.2
    have few := hP.few hn
    rw [rngD_cons (by omega)]
    by_cases hq : (turn other.mr lvB (one.mr pq.1 j) pq.2).size ≤ 60
    · have hl := hP.nd
      have lp := pairs_loop (k + 7) (s.length + 3) [.lst rws, .lst ((List.range j).map fun (i : Nat) => bD one other pq i)] [] s [] (bRow one other pq j |>.row hD2) (some (.d (oTurner one))) (some (.d (oTurner other))) (some (.d (oBehind other))) (some (.loc (s.length + 1))) none (some (.loc (s.length + 2))) (some (.d (.int j))) (some (.d (.int pq.1))) (some (.d (.int pq.2))) (some (.d (.tup ((bRow one other pq j).row hD2)))) (bRow one other pq j) [] P (by unfold bRow; omega)
      obtain ⟨a1, ⟨X, a2⟩, a3, a4⟩ := addP_spec (bRow one other pq j).vs P hP.nd
      have hst := bRow_st h1 h2 hb hp j0 j1
      have hP' : PIn one other (addP P (bRow one other pq j).vs) := ⟨a1, fun x hx => by
        rcases a4 x hx with h | ⟨y, hy, rfl⟩
        · exact hP.st x h
        · exact (T.all_vs _).mp hst y hy⟩
      obtain ⟨P', w10', hw', e, b1, ⟨Y, b2⟩, b3⟩ | ⟨s', e, b1⟩ := ih (j + 1) _ (some (.d (.tup ((bRow one other pq j).row hD2)))) (by omega) hP' (fun l q => by cases q)
      · refine .inl ⟨P', w10', hw', ?_, b1, ⟨X ++ Y, by rw [b2, a2, List.append_assoc]⟩, fun sg c0 c1 => ?_⟩
        · rw [← e]
          simp -implicitDefEqProofs [Nat.add_assoc, bRow, bD] at lp
          simp -implicitDefEqProofs [Nat.add_assoc, forG_cons, u_behind_2, hr, mk, hq, hs, lp, List.range_succ, bD, bRow]
        · by_cases c : sg = j
          · subst c
            rw [b2]
            exact BDone.mono ⟨(T.all_vs _).mpr a3, hq⟩
          · exact b3 sg (by omega) c1
      · refine .inr ⟨s', ?_, b1⟩
        rw [← e]
        simp -implicitDefEqProofs [Nat.add_assoc, bRow, bD] at lp
        simp -implicitDefEqProofs [Nat.add_assoc, forG_cons, u_behind_2, hr, mk, hq, hs, lp, List.range_succ, bD, bRow]
    · right
      refine ⟨s ++ [.lst (P.map hD), .lst rws, .lst ((List.range j).map fun (i : Nat) => bD one other pq i)], ?_, by simp⟩
      simp -implicitDefEqProofs [Nat.add_assoc, forG_cons, u_behind_2, hr, mk, hq]

/-- the rows so far -/
def bRows (one other : Tn) (P : List (Int × Int)) (i : Nat) : List D := (List.range i).map fun j => bsD one other (P.getD j default)
theorem bRows_app (one other : Tn) (P X : List (Int × Int)) (i : Nat) (hi : i ≤ P.length) : bRows one other (P ++ X) i = bRows one other P i := by
  unfold bRows
  refine List.map_congr_left fun j hj => ?_
  simp at hj
  rw [List.getD_eq_getElem?_getD, List.getD_eq_getElem?_getD, List.getElem?_append_left (by omega)]
structure BInv (one other : Tn) (P : List (Int × Int)) (i : Nat) : Prop where
  pin : PIn one other P
  zero : P.getD 0 default = (0, 0)
  pos : 0 < P.length
  le : i ≤ P.length
  done : ∀ j, j < i → ∀ sg : Nat, sg < one.bk.ks.length → BDone one other P (P.getD j default) sg
theorem behind_while (k : Nat) (s : Sto) (one other : Tn) (h1 : one.Ok) (h2 : other.Ok) (hb : one.gl = other.bk) (hn : one.rows.length * other.rows.length ≤ 1000) : ∀ (d i : Nat) (P : List (Int × Int)) (f : Nat) (w6 w10 : Option W), BInv one other P i → 1000 ≤ i + d → d < f → (∀ l, w10 ≠ some (.loc l)) →
    (∃ P' w6' w10', (∀ l, w10' ≠ some (.loc l)) ∧ whlG (cx prog (k + 7)) (s.length + 2) (.op true .lt (.cons (.op true .len (.cons (.v 4) .nil)) (.cons (.op true .len (.cons (.v 3) .nil)) .nil))) [7, 8, 9, 11] l_behind_3 f [some (.d (oTurner one)), some (.d (oTurner other)), some (.d (oBehind other)), some (.loc s.length), some (.loc (s.length + 1)), none, w6, none, none, none, w10, none] (s ++ [.lst (P.map hD), .lst (bRows one other P i)])
      = .ok (.nx, [some (.d (oTurner one)), some (.d (oTurner other)), some (.d (oBehind other)), some (.loc s.length), some (.loc (s.length + 1)), none, w6', none, none, none, w10', none]) (s ++ [.lst (P'.map hD), .lst (bRows one other P' P'.length)]) ∧ BInv one other P' P'.length) ∨
    (∃ s', whlG (cx prog (k + 7)) (s.length + 2) (.op true .lt (.cons (.op true .len (.cons (.v 4) .nil)) (.cons (.op true .len (.cons (.v 3) .nil)) .nil))) [7, 8, 9, 11] l_behind_3 f [some (.d (oTurner one)), some (.d (oTurner other)), some (.d (oBehind other)), some (.loc s.length), some (.loc (s.length + 1)), none, w6, none, none, none, w10, none] (s ++ [.lst (P.map hD), .lst (bRows one other P i)])
      = .err X_TooGreat s' ∧ s'.take s.length = s) := by
  intro d
  induction d with
  | zero =>
    intro i P f w6 w10 hi hd hf hw
    obtain ⟨f, rfl⟩ : ∃ g, f = g + 1 := ⟨f - 1, by omega⟩
    have := hi.pin.few hn
    have := hi.le
    have : i = P.length := by omega
    subst this
    exact .inl ⟨P, w6, w10, hw, by simp -implicitDefEqProofs [Nat.add_assoc, whlG_succ, bRows], hi⟩
  | succ d ih =>
    intro i P f w6 w10 hi hd hf hw
    obtain ⟨f, rfl⟩ : ∃ g, f = g + 1 := ⟨f - 1, by omega⟩
    have few := hi.pin.few hn
    by_cases q : i = P.length
    · subst q
      exact .inl ⟨P, w6, w10, hw, by simp -implicitDefEqProofs [Nat.add_assoc, whlG_succ, bRows], hi⟩
    have lt : i < P.length := by have := hi.le; omega
    have lti : (i : Int) < P.length := by omega
    have hmem : P.getD i default ∈ P := by rw [List.getD_eq_getElem?_getD, List.getElem?_eq_getElem lt]; simp
    have hp := hi.pin.st _ hmem
    obtain ⟨pq, hpq⟩ : ∃ pq, P.getD i default = pq := ⟨_, rfl⟩
    rw [hpq] at hmem hp
    have a2 : atI P i = some pq := by
      rw [atI_ok (by omega) lti, ← hpq]; simp [gi]
    have a1 : atI (P.map hD) i = some (hD pq) := by
      rw [atI_map, a2]; rfl
    have hs : sm i = true := sm_of (by omega)
    have ho : okQ one.bk.ks.length = true := okQ_of (by omega) (by have := h1.bk.six; omega)
    have hl := h1.bk.len
    obtain ⟨P', w10', hw', e, b1, ⟨X, b2⟩, b3⟩ | ⟨s', e, b1⟩ := behind_signs k (s.length + 3) s one other h1 h2 hb hn pq hp (bRows one other P i) (rngD 0 one.bk.ks.length) one.bk.ks.length 0 P w10 (by omega) hi.pin hw
    · have hi' : BInv one other P' (i + 1) := by
        subst b2
        have g1 : ∀ j, j < P.length → (P ++ X).getD j default = P.getD j default := fun j hj => by
          rw [List.getD_eq_getElem?_getD, List.getD_eq_getElem?_getD, List.getElem?_append_left hj]
        refine ⟨b1, by rw [g1 _ hi.pos]; exact hi.zero, by simp; omega, by simp; omega, fun j hj sg hg => ?_⟩
        rw [g1 j (by omega)]
        by_cases c : j = i
        · subst c; rw [hpq]; exact b3 sg (by omega) hg
        · exact BDone.mono (hi.done j (by omega) sg hg)
      have er : bRows one other P' (i + 1) = bRows one other P i ++ [bsD one other pq] := by
        subst b2
        rw [bRows_app _ _ _ _ _ (by omega)]
        rw [← hpq]; simp [bRows, List.range_succ]
      have hbl : (bRows one other P i).length = i := by simp [bRows]
      have step : ∀ e', e' = bsD one other pq → whlG (cx prog (k + 7)) (s.length + 2) (.op true .lt (.cons (.op true .len (.cons (.v 4) .nil)) (.cons (.op true .len (.cons (.v 3) .nil)) .nil))) [7, 8, 9, 11] l_behind_3 (f + 1) [some (.d (oTurner one)), some (.d (oTurner other)), some (.d (oBehind other)), some (.loc s.length), some (.loc (s.length + 1)), none, w6, none, none, none, w10, none] (s ++ [.lst (P.map hD), .lst (bRows one other P i)]) = whlG (cx prog (k + 7)) (s.length + 2) (.op true .lt (.cons (.op true .len (.cons (.v 4) .nil)) (.cons (.op true .len (.cons (.v 3) .nil)) .nil))) [7, 8, 9, 11] l_behind_3 f [some (.d (oTurner one)), some (.d (oTurner other)), some (.d (oBehind other)), some (.loc s.length), some (.loc (s.length + 1)), none, some (.d e'), none, none, none, w10', none] (s ++ [.lst (P'.map hD), .lst (bRows one other P' (i + 1))]) := by
        intro e' he
        subst he
        rw [er]
        simp -implicitDefEqProofs [Nat.add_assoc, ] at e
        simp -implicitDefEqProofs [Nat.add_assoc, whlG_succ, hbl, lt, a1, a2, hD, u_behind_3, hl, ho, e, hs, freeze, unName, hw', bsD]
      rcases ih (i + 1) P' f (some (.d (bsD one other pq))) w10' hi' (by omega) (by omega) hw' with ⟨P2, w6', w10'', hw2, e2, c⟩ | ⟨s2, e2, c⟩
      · exact .inl ⟨P2, w6', w10'', hw2, by rw [step _ rfl, e2], c⟩
      · exact .inr ⟨s2, by rw [step _ rfl, e2], c⟩
    · refine .inr ⟨s', ?_, b1⟩
      have hbl : (bRows one other P i).length = i := by simp [bRows]
      simp -implicitDefEqProofs [Nat.add_assoc, ] at e
      simp -implicitDefEqProofs [Nat.add_assoc, whlG_succ, hbl, lt, a1, a2, hD, u_behind_3, hl, ho, e]

def bBoth (one other : Tn) (P : List (Int × Int)) : Tn := ⟨one.bk, other.gl, (List.range P.length).map fun j => (List.range one.bk.ks.length).map fun (i : Nat) => (bRow one other (P.getD j default) i).sub fun y => .v (((P.idxOf y.1 : Nat) : Int), y.2)⟩
theorem bBoth_mr (one other : Tn) (P : List (Int × Int)) (i sg : Nat) (hi : i < P.length) (hs : sg < one.bk.ks.length) : (bBoth one other P).mr i sg = (bRow one other (P.getD i default) sg).sub fun y => .v (((P.idxOf y.1 : Nat) : Int), y.2) := by
  simp [Tn.mr, bBoth, gi, List.getD_eq_getElem?_getD, hi, hs]
theorem bh_of {one other : Tn} (h1 : one.Ok) (h2 : other.Ok) (hb : one.gl = other.bk) {P : List (Int × Int)} (h : BInv one other P P.length) : Bh one other P (bBoth one other P) := by
  have mem : ∀ i, i < P.length → P.getD i default ∈ P := fun i hi => by
    rw [List.getD_eq_getElem?_getD, List.getElem?_eq_getElem hi]
    simp
  refine ⟨rfl, rfl, by simp [bBoth], h.pin.st, h.pin.nd, fun i hi sg a b => ?_, fun pq hp sg a b => ?_, h.zero, h.pos⟩
  · obtain ⟨sg, rfl⟩ : ∃ n : Nat, sg = n := ⟨sg.toNat, by omega⟩
    exact bBoth_mr one other P i sg hi (by omega)
  · obtain ⟨sg, rfl⟩ : ∃ n : Nat, sg = n := ⟨sg.toNat, by omega⟩
    obtain ⟨i, hi, rfl⟩ := List.getElem_of_mem hp
    have := (h.done i hi sg (by omega)).1
    rw [List.getD_eq_getElem?_getD, List.getElem?_eq_getElem hi] at this
    exact this
theorem bBoth_ok {one other : Tn} (h1 : one.Ok) (h2 : other.Ok) (hb : one.gl = other.bk) (hn : one.rows.length * other.rows.length ≤ 1000) {P : List (Int × Int)} (h : BInv one other P P.length) : (bBoth one other P).Ok ∧ ∀ some ∈ (bBoth one other P).rows, ∀ m ∈ some, m.size ≤ 60 := by
  have hB := bh_of h1 h2 hb h
  have few := h.pin.few hn
  have mem : ∀ i, i < P.length → P.getD i default ∈ P := fun i hi => by
    rw [List.getD_eq_getElem?_getD, List.getElem?_eq_getElem hi]
    simp
  have hz : ∀ some ∈ (bBoth one other P).rows, ∀ m ∈ some, m.size ≤ 60 := by
    intro r hr m hm
    simp only [bBoth, List.mem_map, List.mem_range] at hr
    obtain ⟨j, hj, rfl⟩ := hr
    simp only [List.mem_map, List.mem_range] at hm
    obtain ⟨i, hi, rfl⟩ := hm
    have := T.sub_size (fun y : Hl => (T.v (((P.idxOf y.1 : Nat) : Int), y.2) : Mr)) (fun _ => rfl) (bRow one other (P.getD j default) i)
    rw [this]
    exact (h.done j hj i hi).2
  refine ⟨⟨h1.bk, h2.gl, by simp [bBoth]; exact h.pos, ?_, ?_, by simp [bBoth]; omega, fun r hr m hm => by have := hz r hr m hm; omega⟩, hz⟩
  · intro r hr
    simp only [bBoth, List.mem_map, List.mem_range] at hr
    obtain ⟨j, hj, rfl⟩ := hr
    simp [bBoth]
  · intro st sg a b c d
    have hl : (bBoth one other P).n = P.length := by simp [Tn.n, bBoth]
    rw [hl] at b ⊢
    have d' : sg < one.bk.ks.length := d
    obtain ⟨st, rfl⟩ : ∃ n : Nat, st = n := ⟨st.toNat, by omega⟩
    have hst : st < P.length := by omega
    rw [hB.row st hst sg c d']
    have hp := h.pin.st _ (mem st hst)
    have q1 := bRow_ok h1 h2 hb hp c d'
    have q2 := hB.cl _ (mem st hst) sg c d'
    have q3 : (bRow one other (P.getD st default) sg).All fun y => 0 ≤ y.2 ∧ y.2 < gi one.bk.ks sg := bRow_kid h1 hp.1.1 hp.1.2 c d'
    have q4 : (bRow one other (P.getD st default) sg).All fun y => (0 ≤ ((P.idxOf y.1 : Nat) : Int) ∧ ((P.idxOf y.1 : Nat) : Int) < P.length) ∧ (0 ≤ y.2 ∧ y.2 < gi one.bk.ks sg) := by
      rw [T.all_vs] at q2 q3 ⊢
      intro y hy
      have := List.idxOf_lt_length_of_mem (q2 y hy)
      exact ⟨⟨by omega, by omega⟩, q3 y hy⟩
    exact ⟨T.sub_ok _ (T.all_of (fun _ => trivial) _) q1, T.sub_all q4⟩
theorem behind_eq (k : Nat) (s : Sto) (one other : Tn) (h1 : one.Ok) (h2 : other.Ok) (hb : one.gl = other.bk) (hn : one.rows.length * other.rows.length ≤ 1000) :
    (∃ P, BInv one other P P.length ∧ call prog (k + 8) F_behind [.d (oTurner one), .d (oTurner other)] s = .ok (.d (oTurner (bBoth one other P))) s) ∨ call prog (k + 8) F_behind [.d (oTurner one), .d (oTurner other)] s = .err X_TooGreat s := by
  have p1 : 1 ≤ one.rows.length := h1.pos
  have p2 : 1 ≤ other.rows.length := h2.pos
  have i0 : BInv one other [(0, 0)] 0 := ⟨⟨by simp, fun x hx => by
    simp at hx
    subst hx
    exact ⟨⟨by omega, by unfold Tn.n; omega⟩, ⟨by omega, by unfold Tn.n; omega⟩⟩⟩, rfl, by simp, by simp, fun j hj => by omega⟩
  have ml := fun s => must_be_like_eq (k + 5) other.bk other.bk s
  simp only [if_true] at ml
  rw [at_behind]
  obtain ⟨P, w6, w10, hw, e, hi⟩ | ⟨s', e, hs'⟩ := behind_while k s one other h1 h2 hb hn 1000 0 [(0, 0)] 1000000 none none i0 (by omega) (by omega) (by simp)
  · left
    refine ⟨P, hi, ?_⟩
    have few := hi.pin.few hn
    have il := fun s => idle_eq (k + 1) s one.bk h1.bk
    have rw_ := with_rows_eq (k + 6) (s ++ [.lst (P.map hD), .lst (bRows one other P P.length)]) ⟨one.bk, one.bk, idleRows one.bk⟩ other.gl (.lst ((List.range P.length).map fun j => .lst ((List.range one.bk.ks.length).map fun (i : Nat) => mD ((bRow one other (P.getD j default) i).sub fun y => .v (((P.idxOf y.1 : Nat) : Int), y.2)))))
    have hbl : (bRows one other P P.length).length = P.length := by simp [bRows]
    have inner : ∀ (acc0 : List D) (j : Nat), j < P.length → lcG (cx prog (k + 7)) (.nm 10) .nil (.call F_numbered (.cons (.v 10) (.cons (.v 3) .nil))) [some (.d (oTurner one)), some (.d (oTurner other)), some (.d (oBehind other)), some (.loc s.length), some (.loc (s.length + 1)), none, some (.d (bsD one other (P.getD j default))), none, none, none, none, none] ((List.range one.bk.ks.length).map fun (i : Nat) => bD one other (P.getD j default) i, none) (s.length + 3) ((List.range one.bk.ks.length).map fun (i : Nat) => bD one other (P.getD j default) i) (s ++ [.lst (P.map hD), .lst (bRows one other P P.length), .lst acc0] ++ [.lst []])
        = .ok () (s ++ [.lst (P.map hD), .lst (bRows one other P P.length), .lst acc0] ++ [.lst ((List.range one.bk.ks.length).map fun (i : Nat) => mD ((bRow one other (P.getD j default) i).sub fun y => .v (((P.idxOf y.1 : Nat) : Int), y.2)))]) := by
      intro acc0 j hj
      refine lcG_map1 _ _ _ (by simp; have := h1.bk.six; omega) (fun i hi acc r ha => ?_)
      simp at hi
      have hd := hi
      have q := hi
      obtain ⟨c1, c2⟩ := (‹BInv one other P P.length›).done j hj i hi
      have nm := numbered_eq (k + 6) s [.lst (bRows one other P P.length), .lst acc0, .lst acc] P _ c1 (by omega)
      simp -implicitDefEqProofs [Nat.add_assoc, ] at nm
      simp -implicitDefEqProofs [Nat.add_assoc, lcG_cons, lcA, bD, nm, ha]
    have outer := lcG_map1 (c := cx prog (k + 7)) (n := s.length + 2) (tg := .nm 6) (g := (bRows one other P P.length, some (s.length + 1))) (ifs := .nil) (elt := .lc true [10] (.nm 10) (.seq (.v 6)) .nil (.call F_numbered (.cons (.v 10) (.cons (.v 3) .nil))))
      (e := [some (.d (oTurner one)), some (.d (oTurner other)), some (.d (oBehind other)), some (.loc s.length), some (.loc (s.length + 1)), none, none, none, none, none, w10, none]) (s := s ++ [.lst (P.map hD), .lst (bRows one other P P.length)])
      (fun j => bsD one other (P.getD j default)) (fun j => .lst ((List.range one.bk.ks.length).map fun (i : Nat) => mD ((bRow one other (P.getD j default) i).sub fun y => .v (((P.idxOf y.1 : Nat) : Int), y.2)))) (List.range P.length) (by simp; omega) (fun j hj acc r ha => by
        simp at hj
        have e := inner acc j hj
        simp -implicitDefEqProofs [Nat.add_assoc, bsD] at e
        have st : still (bRows one other P P.length, some (s.length + 1)) (s ++ [.lst (P.map hD), .lst (bRows one other P P.length), .lst acc]) = true := by
          simp -implicitDefEqProofs [Nat.add_assoc, still]
        simp -implicitDefEqProofs [Nat.add_assoc, lcG_cons, lcA, bsD, ha, e, finC, st])
    simp -implicitDefEqProofs [Nat.add_assoc, hD, bRows] at e
    simp -implicitDefEqProofs [Nat.add_assoc, bRows] at outer
    simp -implicitDefEqProofs [Nat.add_assoc, bRows, mTurner] at rw_
    simp -implicitDefEqProofs [Nat.add_assoc, mTurner] at il
    simp -implicitDefEqProofs [Nat.add_assoc, runN_eq, b_behind, ml, hb, new_Behind, e, outer, finC, il, rw_, bRows, leave_loc, still]
    simp -implicitDefEqProofs [Nat.add_assoc, bBoth, oTurner, Function.comp_def]
  · right
    simp -implicitDefEqProofs [Nat.add_assoc, hD, bRows] at e
    simp -implicitDefEqProofs [Nat.add_assoc, runN_eq, b_behind, ml, hb, new_Behind, e, hs']
end G

set_option maxRecDepth 10000
/-! turned, size_turned, part_turned -/
namespace TT
variable {V U : Type}
/-- what a row has where a tree begins -/
def T.hd (f : V → D) : T V → D
  | .v x => f x
  | .z s => .int s
  | .o s _ => .int s
  | .t s _ _ => .int s
/-- where the kids of a tree at a place are -/
def T.pls : T V → Nat → List Int
  | .v _, _ => []
  | .z _, _ => []
  | .o _ _, p => [((p + 1 : Nat) : Int)]
  | .t _ a _, p => [((p + 1 : Nat) : Int), ((p + 1 + a.size : Nat) : Int)]
def T.kps : T V → Nat → List (List Int)
  | .v _, _ => [[]]
  | .z _, _ => [[]]
  | .o _ a, p => [((p + 1 : Nat) : Int)] :: a.kps (p + 1)
  | .t _ a b, p => [((p + 1 : Nat) : Int), ((p + 1 + a.size : Nat) : Int)] :: (a.kps (p + 1) ++ b.kps (p + 1 + a.size))
theorem T.kps_len (x : T V) : ∀ p, (x.kps p).length = x.size := by
  induction x with
  | v x => intro p; rfl
  | z s => intro p; rfl
  | o s a ih => intro p; simp [T.kps, T.size, ih]; omega
  | t s a b iha ihb => intro p; simp [T.kps, T.size, iha, ihb]; omega
theorem T.kps_at (x : T V) : ∀ (p h : Nat), (x.kps p)[h]? = (x.subs[h]?).map fun u => u.pls (p + h) := by
  induction x with
  | v x => intro p h; cases h <;> simp [T.kps, T.subs, T.pls]
  | z s => intro p h; cases h <;> simp [T.kps, T.subs, T.pls]
  | o s a ih =>
    intro p h
    cases h with
    | zero => simp [T.kps, T.subs, T.pls]
    | succ h =>
      simp only [T.kps, T.subs, List.getElem?_cons_succ, ih]
      rw [show p + 1 + h = p + (h + 1) by omega]
  | t s a b iha ihb =>
    intro p h
    cases h with
    | zero => simp [T.kps, T.subs, T.pls]
    | succ h =>
      simp only [T.kps, T.subs, List.getElem?_cons_succ, List.getElem?_append, T.kps_len, T.subs_len]
      split
      · rw [iha, show p + 1 + h = p + (h + 1) by omega]
      · rw [ihb, show p + 1 + a.size + (h - a.size) = p + (h + 1) by omega]
theorem T.row_subs (f : V → D) (x : T V) : ∀ h : Nat, (x.row f)[h]? = (x.subs[h]?).map (T.hd f) := by
  induction x with
  | v x => intro h; cases h <;> simp [T.row, T.subs, T.hd]
  | z s => intro h; cases h <;> simp [T.row, T.subs, T.hd]
  | o s a ih => intro h; cases h <;> simp [T.row, T.subs, T.hd, ih]
  | t s a b iha ihb =>
    intro h
    cases h with
    | zero => simp [T.row, T.subs, T.hd]
    | succ h =>
      simp only [T.row, T.subs, List.getElem?_cons_succ, List.getElem?_append, T.row_len, T.subs_len]
      split
      · exact iha h
      · exact ihb _
theorem T.subs_ok {ks : List Int} (x : T V) : x.Ok ks → ∀ u ∈ x.subs, u.Ok ks := by
  induction x with
  | v x => intro hx u hu; simp [T.subs] at hu; subst hu; exact hx
  | z s => intro hx u hu; simp [T.subs] at hu; subst hu; exact hx
  | o s a ih =>
    intro hx u hu
    simp only [T.subs, List.mem_cons] at hu
    rcases hu with rfl | hu
    · exact hx
    · exact ih hx.2.2 u hu
  | t s a b iha ihb =>
    intro hx u hu
    simp only [T.subs, List.mem_cons, List.mem_append] at hu
    rcases hu with rfl | hu | hu
    · exact hx
    · exact iha hx.2.2.1 u hu
    · exact ihb hx.2.2.2 u hu
theorem T.subs_all {p : V → Prop} (x : T V) : x.All p → ∀ u ∈ x.subs, u.All p := by
  induction x with
  | v x => intro hx u hu; simp [T.subs] at hu; subst hu; exact hx
  | z s => intro hx u hu; simp [T.subs] at hu; subst hu; exact hx
  | o s a ih =>
    intro hx u hu
    simp only [T.subs, List.mem_cons] at hu
    rcases hu with rfl | hu
    · exact hx
    · exact ih hx u hu
  | t s a b iha ihb =>
    intro hx u hu
    simp only [T.subs, List.mem_cons, List.mem_append] at hu
    rcases hu with rfl | hu | hu
    · exact hx
    · exact iha hx.1 u hu
    · exact ihb hx.2 u hu
theorem T.subs_size (x : T V) : ∀ u ∈ x.subs, u.size ≤ x.size := by
  induction x with
  | v x => intro u hu; simp [T.subs] at hu; subst hu; simp
  | z s => intro u hu; simp [T.subs] at hu; subst hu; simp
  | o s a ih =>
    intro u hu
    simp only [T.subs, List.mem_cons] at hu
    rcases hu with rfl | hu
    · simp
    · have := ih u hu; simp only [T.size]; omega
  | t s a b iha ihb =>
    intro u hu
    simp only [T.subs, List.mem_cons, List.mem_append] at hu
    rcases hu with rfl | hu | hu
    · simp
    · have := iha u hu; simp only [T.size]; omega
    · have := ihb u hu; simp only [T.size]; omega
/-- a part's row in a whole's -/
theorem T.sub_row (f : V → D) (x : T V) : ∀ (h : Nat) (u : T V), x.subs[h]? = some u → ∃ pre post, x.row f = pre ++ u.row f ++ post ∧ pre.length = h := by
  induction x with
  | v x => intro h u hu; cases h <;> simp [T.subs] at hu; subst hu; exact ⟨[], [], by simp, rfl⟩
  | z s => intro h u hu; cases h <;> simp [T.subs] at hu; subst hu; exact ⟨[], [], by simp, rfl⟩
  | o s a ih =>
    intro h u hu
    cases h with
    | zero => simp [T.subs] at hu; subst hu; exact ⟨[], [], by simp, rfl⟩
    | succ h =>
      simp only [T.subs, List.getElem?_cons_succ] at hu
      obtain ⟨pre, post, e, hl⟩ := ih h u hu
      exact ⟨.int s :: pre, post, by simp [T.row, e], by simp [hl]⟩
  | t s a b iha ihb =>
    intro h u hu
    cases h with
    | zero => simp [T.subs] at hu; subst hu; exact ⟨[], [], by simp, rfl⟩
    | succ h =>
      simp only [T.subs, List.getElem?_cons_succ, List.getElem?_append, T.subs_len] at hu
      split at hu
      · obtain ⟨pre, post, e, hl⟩ := iha h u hu
        exact ⟨.int s :: pre, post ++ b.row f, by simp [T.row, e], by simp [hl]⟩
      · obtain ⟨pre, post, e, hl⟩ := ihb _ u hu
        exact ⟨.int s :: (a.row f ++ pre), post, by simp [T.row, e], by simp [hl, T.row_len]; omega⟩
theorem T.subs_o {x : T V} : ∀ {h : Nat} {s : Int} {a : T V}, x.subs[h]? = some (.o s a) → x.subs[h + 1]? = some a := by
  induction x with
  | v x => intro h s a hu; cases h <;> simp [T.subs] at hu
  | z s => intro h s a hu; cases h <;> simp [T.subs] at hu
  | o s a ih =>
    intro h s2 a2 hu
    cases h with
    | zero => simp [T.subs] at hu; obtain ⟨rfl, rfl⟩ := hu; simp [T.subs, T.subs_head]
    | succ h => simp only [T.subs, List.getElem?_cons_succ] at hu ⊢; exact ih hu
  | t s a b iha ihb =>
    intro h s2 a2 hu
    cases h with
    | zero => simp [T.subs] at hu
    | succ h =>
      simp only [T.subs, List.getElem?_cons_succ, List.getElem?_append, T.subs_len] at hu ⊢
      split at hu
      · have := iha hu
        have hl := (List.getElem?_eq_some_iff.mp this).1
        rw [T.subs_len] at hl
        rw [if_pos hl]; exact this
      · rename_i q
        rw [if_neg (by omega), show h + 1 - a.size = h - a.size + 1 by omega]; exact ihb hu
theorem T.subs_t {x : T V} : ∀ {h : Nat} {s : Int} {a b : T V}, x.subs[h]? = some (.t s a b) → x.subs[h + 1]? = some a ∧ x.subs[h + 1 + a.size]? = some b := by
  induction x with
  | v x => intro h s a b hu; cases h <;> simp [T.subs] at hu
  | z s => intro h s a b hu; cases h <;> simp [T.subs] at hu
  | o s a ih =>
    intro h s2 a2 b2 hu
    cases h with
    | zero => simp [T.subs] at hu
    | succ h =>
      simp only [T.subs, List.getElem?_cons_succ] at hu ⊢
      rw [show h + 1 + 1 + a2.size = h + 1 + a2.size + 1 by omega, List.getElem?_cons_succ]
      exact ih hu
  | t s a b iha ihb =>
    intro h s2 a2 b2 hu
    cases h with
    | zero =>
      simp [T.subs] at hu
      obtain ⟨rfl, rfl, rfl⟩ := hu
      rw [show 0 + 1 + a.size = a.size + 1 by omega]
      have := a.size_pos
      simp [T.subs, List.getElem?_append, T.subs_len, T.subs_head, this]
      intro q; omega
    | succ h =>
      simp only [T.subs, List.getElem?_cons_succ, List.getElem?_append, T.subs_len] at hu
      rw [show h + 1 + 1 + a2.size = h + 1 + a2.size + 1 by omega]
      simp only [T.subs, List.getElem?_cons_succ, List.getElem?_append, T.subs_len]
      split at hu
      · obtain ⟨h1, h2⟩ := iha hu
        have l1 := (List.getElem?_eq_some_iff.mp h1).1
        have l2 := (List.getElem?_eq_some_iff.mp h2).1
        rw [T.subs_len] at l1 l2
        rw [if_pos l1, if_pos l2]; exact ⟨h1, h2⟩
      · rename_i q
        obtain ⟨h1, h2⟩ := ihb hu
        rw [if_neg (by omega), if_neg (by omega), show h + 1 - a.size = h - a.size + 1 by omega, show h + 1 + a2.size - a.size = h - a.size + 1 + a2.size by omega]; exact ⟨h1, h2⟩
/-- a kid, and the sign on top -/
def T.kid : G0 → Int → G0
  | .v e, _ => e.elim
  | .z s, _ => .z s
  | .o _ a, _ => a
  | .t _ a b, i => if i = 0 then a else b
def T.sg : G0 → Int
  | .v e => e.elim
  | .z s => s
  | .o s _ => s
  | .t s _ _ => s
def Tn.below (t : Tn) (u : G0) : Int × Int → G0 := fun h => t.turn (u.kid h.2) h.1
theorem T.sg_ok {ks : List Int} {u : G0} (h : u.Ok ks) : 0 ≤ u.sg ∧ u.sg < ks.length := by
  cases u with
  | v e => exact e.elim
  | z s => exact h.1
  | o s a => exact h.1
  | t s a b => exact h.1
theorem turn_below {t : Tn} (ht : t.Ok) {u : G0} (hu : u.Ok t.bk.ks) {st : Int} (h0 : 0 ≤ st) (h1 : st < t.n) : t.turn u st = (t.mr st u.sg).sub (t.below u) := by
  cases u with
  | v e => exact e.elim
  | z s =>
    have hm := ht.mr st s h0 h1 hu.1.1 hu.1.2
    show (t.mr st s).sub _ = _
    exact T.sub_congr (fun x hx => by have := hu.2; omega) hm.all
  | o s a => rfl
  | t s a b =>
    show (t.mr st s).sub _ = (t.mr st s).sub _
    refine T.sub_congr (fun x _ => ?_) (T.all_of (p := fun _ => True) (fun _ => trivial) _)
    show (if x.2 = 0 then t.turn a x.1 else t.turn b x.1) = t.turn (if x.2 = 0 then a else b) x.1
    split <;> rfl
/-- a kid's place -/
theorem kid_at {ks : List Int} {x : G0} {h : Nat} {u : G0} (hu : x.subs[h]? = some u) (ho : u.Ok ks) {i : Int} (i0 : 0 ≤ i) (i1 : i < gi ks u.sg) : ∃ h' : Nat, gi (u.pls h) i = h' ∧ i < (u.pls h).length ∧ x.subs[h']? = some (u.kid i) ∧ (u.kid i).size < u.size := by
  cases u with
  | v e => exact e.elim
  | z s => have := ho.2; simp only [T.sg] at i1; omega
  | o s a =>
    have := ho.2.1; simp only [T.sg] at i1
    have : i = 0 := by omega
    subst this
    exact ⟨h + 1, by simp [T.pls, gi], by simp [T.pls], T.subs_o hu, by simp [T.kid, T.size]⟩
  | t s a b =>
    have := ho.2.1; simp only [T.sg] at i1
    have : i = 0 ∨ i = 1 := by omega
    rcases this with rfl | rfl
    · exact ⟨h + 1, by simp [T.pls, gi], by simp [T.pls], (T.subs_t hu).1, by simp [T.kid, T.size]; omega⟩
    · exact ⟨h + 1 + a.size, by simp [T.pls, gi], by simp [T.pls], (T.subs_t hu).2, by simp [T.kid, T.size]; omega⟩
/-- a place in what comes of a tree -/
structure Pos (t : Tn) (x : G0) (h : Nat) (m : Mr) (i : Nat) (u : G0) (r : Mr) : Prop where
  hu : x.subs[h]? = some u
  hm : MrOk t.gl.ks t.n (gi t.bk.ks u.sg) m
  hr : m.subs[i]? = some r
  hs : m.size ≤ 5000
theorem Pos.uok {t : Tn} {x : G0} {h : Nat} {m : Mr} {i : Nat} {u : G0} {r : Mr} (hx : x.Ok t.bk.ks) (p : Pos t x h m i u r) : u.Ok t.bk.ks := T.subs_ok x hx u (List.mem_of_getElem? p.hu)
theorem Pos.rok {t : Tn} {x : G0} {h : Nat} {m : Mr} {i : Nat} {u : G0} {r : Mr} (p : Pos t x h m i u r) : MrOk t.gl.ks t.n (gi t.bk.ks u.sg) r := ⟨T.subs_ok m p.hm.ok r (List.mem_of_getElem? p.hr), T.subs_all m p.hm.all r (List.mem_of_getElem? p.hr)⟩
end TT

set_option maxRecDepth 10000
namespace TT
def kD (x : G0) : D := .lst ((x.kps 0).map fun l => .lst (l.map .int))
/-- down from a tree -/
def goPl (ks : List Int) : G0 → List Int → Option G0
  | x, [] => some x
  | x, i :: r => if 0 ≤ i ∧ i < gi ks x.sg then goPl ks (x.kid i) r else none
end TT
namespace G
open TT
def oSizes : D := .obj C_Sizes [] []
@[simp] theorem objOf_oSizes (s : Sto) : objOf s (.d oSizes) = some (C_Sizes, [], []) := rfl
theorem sizes_hand {U : Type} (ks : List Int) : Hand 1 oSizes ks (fun t : T U => .int t.size) := by
  refine ⟨C_Sizes, _, _, F_Sizes_lead, fun s => objOf_oSizes s, by simp, fun sg h k s => ?_, fun sg a h k s => ?_, fun sg a b h k s => ?_⟩
  · rw [at_Sizes_lead]
    simp [runN_eq, b_Sizes_lead, dInts, T.size]
  · rw [at_Sizes_lead]
    simp [runN_eq, b_Sizes_lead, dInts, T.size]
  · rw [at_Sizes_lead]
    simp [runN_eq, b_Sizes_lead, dInts, T.size]
theorem subs_at0 (x : G0) : atI x.subs 0 = some x := by
  have := T.subs_head x
  have h2 := x.subs_len
  have h3 := x.size_pos
  unfold atI ixOf
  rw [if_pos (by omega), if_pos (by omega)]
  simp [this]
theorem size_turned_eq {tn : Tn} (ht : tn.Ok) (k : Nat) (s : Sto) (x : G0) (hx : x.Ok tn.bk.ks) (hl : x.size ≤ 40) :
    call prog (k + 7) F_size_turned [.d (oTurner tn), .d (tD x)] s = .ok (.d (.int (tn.turn x 0).size)) s := by
  have H1 := sizes_hand (U := Empty) tn.gl.ks
  have H2 := through_hand (K := 0) ht H1 (fun _ x => x.elim : Int → Empty → G0) (fun _ x => x.elim)
  have e := fun s => all_folded_eq (K := 3) ht.bk H2 (k + 1) s x hx (by omega)
  simp only [Nat.add_assoc, Nat.reduceAdd] at e
  have hn : 0 < tn.n := by have := ht.pos; unfold Tn.n; omega
  have ck := fun s => check_tree_ok (k + 2) tn.bk ht.bk x hx hl s
  rw [at_size_turned]
  have e1 := subs_at0 x
  have e2 : atI (states tn.n fun st => D.int ((turn tn.mr (fun _ x => x.elim : Int → Empty → G0) x st).size : Int)) 0 = some (.int (tn.turn x 0).size) := by
    rw [atI_ok (by omega) (by rw [states_len]; omega), gi_states (by omega) hn]
    rfl
  simp only [oSizes] at e
  simp -implicitDefEqProofs [Nat.add_assoc, runN_eq, b_size_turned, ck, e, e1, tEnc, e2]
theorem turned_pk {tn : Tn} (ht : tn.Ok) (k : Nat) (s : Sto) (x : G0) (hx : x.Ok tn.bk.ks) (hl : x.size ≤ 40) :
    call prog (k + 8) F_turned [.d (oTurner tn), .d (tD x)] s = if (tn.turn x 0).size ≤ 200 then .ok (.d (tD (tn.turn x 0))) s else .err X_TooGreat s := by
  have ck := fun s => check_tree_ok (k + 3) tn.bk ht.bk x hx hl s
  have tb := fun s => turned_by_eq ht k s x hx (by omega)
  rw [at_turned]
  by_cases h : (tn.turn x 0).size ≤ 200
  · simp -implicitDefEqProofs [Nat.add_assoc, runN_eq, b_turned, ck, tb, h]
  · simp -implicitDefEqProofs [Nat.add_assoc, runN_eq, b_turned, ck, tb, h]
theorem turned_no (tn : Tn) (ht : tn.Ok) (k : Nat) (s : Sto) (row : List Int) (hr : ¬ (row.length ≤ 40 ∧ endOf tn.bk.ks row 1 0 = row.length)) (hl : row.length < 1000000) :
    call prog (k + 8) F_turned [.d (oTurner tn), .d (.tup (row.map .int))] s = .err X_NoTree s := by
  have ck := fun s => check_tree_eq (k + 3) tn.bk ht.bk row hl s
  rw [at_turned]
  simp -implicitDefEqProofs [Nat.add_assoc, runN_eq, b_turned, ck, hr]
/-! the walk -/
theorem kid_places_loop (k n : Nat) (s : Sto) (b : Bk) (hb : b.Ok) (all : List Int) (g : List D) (u : G0) : ∀ (pre post : List Int) (j : Nat) (fo : List D) (wt : List Int), all = pre ++ u.nums ++ post → u.Ok b.ks → fo.length + u.size ≤ 9000 → wt.length + u.size ≤ 9000 → j = post.length →
    forG (cx prog (k + 1)) n (.nm 4) [4, 5, 6] l_kid_places_1 (g, none) (rngD (j : Int) (all.length : Int)) [some (.d (oBook b)), some (.d (.tup (all.map .int))), some (.loc s.length), some (.loc (s.length + 1)), none, none, none] (s ++ [.lst fo, .lst (wt.map .int)]) = forG (cx prog (k + 1)) n (.nm 4) [4, 5, 6] l_kid_places_1 (g, none) (rngD ((j + u.size : Nat) : Int) (all.length : Int)) [some (.d (oBook b)), some (.d (.tup (all.map .int))), some (.loc s.length), some (.loc (s.length + 1)), none, none, none] (s ++ [.lst (fo ++ ((u.kps pre.length).map fun l => .lst (l.map .int)).reverse), .lst ((wt ++ [(pre.length : Int)]).map .int)]) := by
  induction u with
  | v e => exact e.elim
  | z sg =>
    intro pre post j fo wt ha hu hl hl2 hj
    simp only [T.size] at hl hl2
    have hs : sm fo.length = true := sm_of (by omega)
    have hs2 : sm wt.length = true := sm_of (by omega)
    have hz : all.length = pre.length + 1 + post.length := by rw [ha]; simp [T.nums]; omega
    have a1 : atI all pre.length = some sg := by rw [ha]; simp only [T.nums, List.append_assoc, List.singleton_append, List.cons_append, List.nil_append]; exact atI_mid _ _ _
    have a2 : (all.length : Int) - 1 - j = pre.length := by omega
    rw [rngD_cons (by omega)]
    simp -implicitDefEqProofs [Nat.add_assoc, forG_cons, u_kid_places_1, a1, a2, hs, hs2, Book_kids, hu.1.1, hu.1.2, hu.2, rngD00, finC, T.kps, T.size]
  | o sg a ih =>
    intro pre post j fo wt ha hu hl hl2 hj
    simp only [T.size] at hl hl2
    have hz : all.length = pre.length + 1 + a.size + post.length := by rw [ha]; simp [T.nums, T.nums_len]; omega
    have e := ih (pre ++ [sg]) post j fo wt (by rw [ha]; simp [T.nums]) hu.2.2 (by omega) (by omega) hj
    rw [e]
    have a1 : atI all pre.length = some sg := by rw [ha]; simp only [T.nums, List.append_assoc, List.singleton_append, List.cons_append, List.nil_append]; exact atI_mid _ _ _
    have a2 : (all.length : Int) - 1 - ((j : Int) + (a.size : Int)) = pre.length := by omega
    have a3 : (j : Int) + (1 + (a.size : Int)) = (j : Int) + a.size + 1 := by omega
    have hs : sm (fo.length + a.size) = true := sm_of (by omega)
    have hs2 : sm wt.length = true := sm_of (by omega)
    rw [rngD_cons (by omega)]
    simp -implicitDefEqProofs [Nat.add_assoc, forG_cons, lcG_cons, lcA, u_kid_places_1, a1, a2, a3, hs, hs2, Book_kids, hu.1.1, hu.1.2, hu.2.1, rngD01, finC, T.kps, T.kps_len, T.size]
  | t sg a b iha ihb =>
    intro pre post j fo wt ha hu hl hl2 hj
    simp only [T.size] at hl hl2
    have hz : all.length = pre.length + 1 + a.size + b.size + post.length := by rw [ha]; simp [T.nums, T.nums_len]; omega
    have hp1 := a.size_pos
    have hp2 := b.size_pos
    have e1 := ihb (pre ++ [sg] ++ a.nums) post j fo wt (by rw [ha]; simp [T.nums]) hu.2.2.2 (by omega) (by omega) hj
    have e2 := iha (pre ++ [sg]) (b.nums ++ post) (j + b.size) (fo ++ ((b.kps (pre ++ [sg] ++ a.nums).length).map fun l => .lst (l.map .int)).reverse) (wt ++ [((pre ++ [sg] ++ a.nums).length : Int)]) (by rw [ha]; simp [T.nums]) hu.2.2.1 (by simp [T.kps_len]; omega) (by simp; omega) (by simp [T.nums_len]; omega)
    rw [e1, e2]
    have a1 : atI all pre.length = some sg := by rw [ha]; simp only [T.nums, List.append_assoc, List.singleton_append, List.cons_append, List.nil_append]; exact atI_mid _ _ _
    have a2 : (all.length : Int) - 1 - ((j : Int) + ((b.size : Int) + (a.size : Int))) = pre.length := by omega
    have a3 : (j : Int) + (1 + ((a.size : Int) + b.size)) = (j : Int) + (b.size + a.size) + 1 := by omega
    have a4 : 1 + (a.size : Int) = a.size + 1 := by omega
    have a5 : 1 + a.size = a.size + 1 := by omega
    have hs : sm (fo.length + (b.size + a.size)) = true := sm_of (by omega)
    have hs2 : sm wt.length = true := sm_of (by omega)
    rw [rngD_cons (by omega)]
    simp -implicitDefEqProofs [Nat.add_assoc, forG_cons, lcG_cons, lcA, u_kid_places_1, a1, a2, a3, a4, a5, hs, hs2, Book_kids, hu.1.1, hu.1.2, hu.2.1, rngD02, finC, T.kps, T.kps_len, T.size, T.nums_len]

theorem kid_places_eq (k : Nat) (s : Sto) (b : Bk) (hb : b.Ok) (x : G0) (hx : x.Ok b.ks) (hl : x.size ≤ 40) : call prog (k + 2) F_kid_places [.d (oBook b), .d (tD x)] s = .ok (.d (kD x)) s := by
  have e := kid_places_loop k (s.length + 2) s b hb x.nums (rngD 0 x.nums.length) x [] [] 0 [] [] (by simp) hx (by simp; omega) (by simp; omega) rfl
  rw [Nat.zero_add, ← T.nums_len x, rngD_nil (i := (x.nums.length : Int)) (by omega)] at e
  have ho : okQ x.nums.length = true := okQ_of (by omega) (by rw [T.nums_len]; omega)
  rw [at_kid_places]
  simp -implicitDefEqProofs [Nat.add_assoc, ] at e
  simp -implicitDefEqProofs [Nat.add_assoc, runN_eq, b_kid_places, tD, ho, e, kD]
theorem row_end_loop (k n : Nat) (s : Sto) (b : Bk) (hb : b.Ok) (items : List D) (w2 : W) (r : Mr) : ∀ (pre post : List D) (w : Int) (f : Nat), items = pre ++ r.row hD ++ post → r.Ok b.ks → 1 ≤ w →
    whlG (cx prog (k + 1)) n (.op true .gt (.cons (.v 3) (.cons (.k (.int 0)) .nil))) [] l_row_end_1 (f + r.size) [some (.d (oBook b)), some (.d (.tup items)), some w2, some (.d (.int w)), some (.d (.int pre.length))] s = whlG (cx prog (k + 1)) n (.op true .gt (.cons (.v 3) (.cons (.k (.int 0)) .nil))) [] l_row_end_1 f [some (.d (oBook b)), some (.d (.tup items)), some w2, some (.d (.int (w - 1))), some (.d (.int ((pre.length + r.size : Nat) : Int)))] s := by
  induction r with
  | v x =>
    intro pre post w f hi hr hw
    have a1 : atI items pre.length = some (hD x) := by rw [hi]; simp only [T.row, List.append_assoc, List.singleton_append, List.cons_append, List.nil_append]; exact atI_mid _ _ _
    have hw' : 0 < w := by omega
    simp -implicitDefEqProofs [Nat.add_assoc, whlG_succ, T.size, hw', u_row_end_1, a1, hD]
  | z sg =>
    intro pre post w f hi hr hw
    have a1 : atI items pre.length = some (.int sg) := by rw [hi]; simp only [T.row, List.append_assoc, List.singleton_append, List.cons_append, List.nil_append]; exact atI_mid _ _ _
    have hw' : 0 < w := by omega
    simp -implicitDefEqProofs [Nat.add_assoc, whlG_succ, T.size, hw', u_row_end_1, a1, Book_kids, hr.1.1, hr.1.2, hr.2]
  | o sg a ih =>
    intro pre post w f hi hr hw
    have a1 : atI items pre.length = some (.int sg) := by rw [hi]; simp only [T.row, List.append_assoc, List.singleton_append, List.cons_append, List.nil_append]; exact atI_mid _ _ _
    have hw' : 0 < w := by omega
    have e := ih (pre ++ [.int sg]) post w f (by rw [hi]; simp [T.row]) hr.2.2 hw
    have q : w - 1 + 1 = w := by omega
    rw [show f + (T.o sg a : Mr).size = f + a.size + 1 by simp only [T.size]; omega]
    simp -implicitDefEqProofs [Nat.add_assoc, ] at e
    rw [whlG_succ]
    simp -implicitDefEqProofs [Nat.add_assoc, T.size, hw', u_row_end_1, a1, Book_kids, hr.1.1, hr.1.2, hr.2.1, q, e]
  | t sg a c iha ihc =>
    intro pre post w f hi hr hw
    have a1 : atI items pre.length = some (.int sg) := by rw [hi]; simp only [T.row, List.append_assoc, List.singleton_append, List.cons_append, List.nil_append]; exact atI_mid _ _ _
    have hw' : 0 < w := by omega
    have e1 := iha (pre ++ [.int sg]) (c.row hD ++ post) (w + 1) (f + c.size) (by rw [hi]; simp [T.row]) hr.2.2.1 (by omega)
    have e2 := ihc (pre ++ [.int sg] ++ a.row hD) post w f (by rw [hi]; simp [T.row]) hr.2.2.2 hw
    have q : w - 1 + 2 = w + 1 := by omega
    have q2 : w + 1 - 1 = w := by omega
    have q3 : 1 + (a.size : Int) = a.size + 1 := by omega
    have q4 : 1 + ((a.size : Int) + c.size) = a.size + (1 + c.size) := by omega
    rw [show f + (T.t sg a c : Mr).size = f + c.size + a.size + 1 by simp only [T.size]; omega]
    simp -implicitDefEqProofs [Nat.add_assoc, q2, T.row_len] at e1 e2
    rw [whlG_succ]
    simp -implicitDefEqProofs [Nat.add_assoc, T.size, hw', u_row_end_1, a1, Book_kids, hr.1.1, hr.1.2, hr.2.1, q, q3, q4, e1, e2]

theorem row_end_eq (k : Nat) (s : Sto) (b : Bk) (hb : b.Ok) (r : Mr) (pre post : List D) (hr : r.Ok b.ks) (hl : r.size ≤ 5000) : call prog (k + 2) F_row_end [.d (oBook b), .d (.tup (pre ++ r.row hD ++ post)), .d (.int pre.length)] s = .ok (.d (.int ((pre.length + r.size : Nat) : Int))) s := by
  obtain ⟨f, hf⟩ : ∃ f, 1000000 = (f + 1) + r.size := ⟨999999 - r.size, by omega⟩
  have e := row_end_loop k s.length s b hb (pre ++ r.row hD ++ post) (.d (.int pre.length)) r pre post 1 (f + 1) rfl hr (by omega)
  rw [← hf] at e
  have e0 : ∀ ev, whlG (cx prog (k + 1)) s.length (.op true .gt (.cons (.v 3) (.cons (.k (.int 0)) .nil))) [] l_row_end_1 (f + 1) [some (.d (oBook b)), some (.d (.tup (pre ++ r.row hD ++ post))), some (.d (.int pre.length)), some (.d (.int (1 - 1))), ev] s = .ok (.nx, [some (.d (oBook b)), some (.d (.tup (pre ++ r.row hD ++ post))), some (.d (.int pre.length)), some (.d (.int (1 - 1))), ev]) s := by
    intro ev
    rw [whlG_succ]
    simp -implicitDefEqProofs [Nat.add_assoc, ]
  rw [e0] at e
  rw [at_row_end]
  simp -implicitDefEqProofs [Nat.add_assoc, ] at e
  simp -implicitDefEqProofs [Nat.add_assoc, runN_eq, b_row_end, e]
def mWalk (t : Tn) (x : G0) (h : Nat) (m : Mr) (i : Nat) : M := .obj C_Walk [A_own_turner, A_own_tree, A_own_kids, A_own_here, A_own_made, A_own_at] [oTurner t, tD x, kD x, .int h, mD m, .int i]
/-- a walk's place, in a sign -/
structure WAt (t : Tn) (x : G0) (w : M) (due : G0) : Prop where
  ex : ∃ (h : Nat) (m : Mr) (i : Nat) (u : G0) (r : Mr), Pos t x h m i u r ∧ (∀ v, r ≠ .v v) ∧ due = r.sub (t.below u) ∧ w = mWalk t x h m i
theorem go_in_loop {t : Tn} (ht : t.Ok) {x : G0} (hx : x.Ok t.bk.ks) (k n : Nat) (s : Sto) : ∀ (N h : Nat) (m : Mr) (i : Nat) (u : G0) (r : Mr) (f : Nat), Pos t x h m i u r → u.size ≤ N → N < f →
    ∃ w', WAt t x w' (r.sub (t.below u)) ∧ whlG (cx prog (k + 1)) n (.op true .isTup (.cons (.op true .ix (.cons (.attr (.v 0) A_own_made) (.cons (.attr (.v 0) A_own_at) .nil))) .nil)) [1, 2] l_Walk_go_in_1 f [some (.loc s.length), none, none] (s ++ [mWalk t x h m i]) = .ok (.nx, [some (.loc s.length), none, none]) (s ++ [w']) := by
  intro N
  induction N with
  | zero => intro h m i u r f hp hu hf; have := u.size_pos; omega
  | succ N ih =>
    intro h m i u r f hp hu hf
    obtain ⟨f, rfl⟩ : ∃ g, f = g + 1 := ⟨f - 1, by omega⟩
    have uok := hp.uok hx
    have rok := hp.rok
    have hi : i < m.size := by rw [← T.subs_len]; exact (List.getElem?_eq_some_iff.mp hp.hr).1
    have hh : h < x.size := by rw [← T.subs_len]; exact (List.getElem?_eq_some_iff.mp hp.hu).1
    have a1 : atI (m.row hD) i = some (r.hd hD) := by
      unfold atI ixOf
      rw [if_pos (by omega), if_pos (by rw [T.row_len]; omega)]
      simp [T.row_subs, hp.hr]
    cases hr : r with
    | z sg =>
      subst hr
      refine ⟨_, ⟨⟨h, m, i, u, _, hp, (fun v q => by cases q), rfl, rfl⟩⟩, ?_⟩
      rw [whlG_succ]
      simp -implicitDefEqProofs [Nat.add_assoc, mWalk, look_cons, mD, a1, T.hd]
    | o sg a =>
      subst hr
      refine ⟨_, ⟨⟨h, m, i, u, _, hp, (fun v q => by cases q), rfl, rfl⟩⟩, ?_⟩
      rw [whlG_succ]
      simp -implicitDefEqProofs [Nat.add_assoc, mWalk, look_cons, mD, a1, T.hd]
    | t sg a b =>
      subst hr
      refine ⟨_, ⟨⟨h, m, i, u, _, hp, (fun v q => by cases q), rfl, rfl⟩⟩, ?_⟩
      rw [whlG_succ]
      simp -implicitDefEqProofs [Nat.add_assoc, mWalk, look_cons, mD, a1, T.hd]
    | v y =>
      subst hr
      obtain ⟨⟨y0, y1⟩, y2, y3⟩ := rok.all
      obtain ⟨h', k1, k2, k3, k4⟩ := kid_at hp.hu uok y2 y3
      have kok := T.subs_ok x hx _ (List.mem_of_getElem? k3)
      have sg := T.sg_ok kok
      have hp' : Pos t x h' (t.mr y.1 (u.kid y.2).sg) 0 (u.kid y.2) (t.mr y.1 (u.kid y.2).sg) := ⟨k3, ht.mr _ _ y0 y1 sg.1 sg.2, T.subs_head _, Tn.mr_size ht y0 y1 sg.1 sg.2⟩
      obtain ⟨w', g1, g2⟩ := ih h' _ 0 _ _ f hp' (by omega) (by omega)
      have due : (t.mr y.1 (u.kid y.2).sg).sub (t.below (u.kid y.2)) = (T.v y : Mr).sub (t.below u) := (turn_below ht kok y0 y1).symm
      refine ⟨w', due ▸ g1, ?_⟩
      rw [← g2]
      have hh' : h' < x.size := by rw [← T.subs_len]; exact (List.getElem?_eq_some_iff.mp k3).1
      have b1 : atI ((x.kps 0).map fun l => D.lst (l.map .int)) h = some (.lst ((u.pls h).map .int)) := by
        unfold atI ixOf
        rw [if_pos (by omega), if_pos (by simp [T.kps_len]; omega)]
        simp [T.kps_at, hp.hu]
      have b2 : atI (u.pls h) y.2 = some (h' : Int) := by rw [atI_ok y2 k2, k1]
      have b3 : atI x.nums h' = some (u.kid y.2).sg := by
        unfold atI ixOf
        rw [if_pos (by omega), if_pos (by rw [T.nums_len]; omega)]
        have := T.row_subs (fun e : Empty => e.elim) x h'
        rw [k3, T.row_nums] at this
        simp only [Option.map_some, List.getElem?_map] at this
        simp only [Int.toNat_natCast]
        generalize u.kid y.2 = z at *
        cases z with
        | v e => exact e.elim
        | z s => simp [T.hd] at this; simpa [T.sg] using this
        | o s a => simp [T.hd] at this; simpa [T.sg] using this
        | t s a b => simp [T.hd] at this; simpa [T.sg] using this
      have tr := fun s => Turner_row k ht y0 y1 sg.1 sg.2 s
      rw [whlG_succ]
      simp -implicitDefEqProofs [Nat.add_assoc, mWalk, look_cons, mD, a1, T.hd, hD, u_Walk_go_in_1, kD, tD, b1, b2, b3, tr, putKs, putN]

theorem go_in_eq {t : Tn} (ht : t.Ok) {x : G0} (hx : x.Ok t.bk.ks) (hl : x.size ≤ 40) (k : Nat) (s : Sto) {h : Nat} {m : Mr} {i : Nat} {u : G0} {r : Mr} (hp : Pos t x h m i u r) :
    ∃ w', WAt t x w' (r.sub (t.below u)) ∧ call prog (k + 2) F_Walk_go_in [.loc s.length] (s ++ [mWalk t x h m i]) = .ok (.d .non) (s ++ [w']) := by
  have us := T.subs_size x u (List.mem_of_getElem? hp.hu)
  obtain ⟨w', h1, h2⟩ := go_in_loop ht hx k (s.length + 1) s 40 h m i u r 1000000 hp (by omega) (by simp)
  refine ⟨w', h1, ?_⟩
  rw [at_Walk_go_in]
  simp -implicitDefEqProofs [Nat.add_assoc, ] at h2
  simp -implicitDefEqProofs [Nat.add_assoc, runN_eq, b_Walk_go_in, h2]
theorem T.sg_sub {σ : Int × Int → G0} {r : Mr} (h : ∀ v, r ≠ .v v) : T.hd hD r = .int (r.sub σ).sg := by
  cases r with
  | v y => exact absurd rfl (h y)
  | z s => rfl
  | o s a => rfl
  | t s a b => rfl
theorem go_down_no {t : Tn} {x : G0} (ht : t.Ok) (hx : x.Ok t.bk.ks) (k : Nat) (s : Sto) {w : M} {due : G0} (hw : WAt t x w due) (j : Int) (hj : ¬ (0 ≤ j ∧ j < gi t.gl.ks due.sg)) : call prog (k + 3) F_Walk_go_down [.loc s.length, .d (.int j)] (s ++ [w]) = .err X_NoPlace (s ++ [w]) := by
  obtain ⟨h, m, i, u, r, hp, hr, hd, rfl⟩ := hw.ex
  have rok := hp.rok
  have hi : i < m.size := by rw [← T.subs_len]; exact (List.getElem?_eq_some_iff.mp hp.hr).1
  have a1 : atI (m.row hD) i = some (.int due.sg) := by
    rw [hd, ← T.sg_sub hr]
    unfold atI ixOf
    rw [if_pos (by omega), if_pos (by rw [T.row_len]; omega)]
    simp [T.row_subs, hp.hr]
  have sg0 : 0 ≤ due.sg ∧ due.sg < t.gl.ks.length := by
    subst hd
    cases r with
    | v y => exact absurd rfl (hr y)
    | z s => exact rok.ok.1
    | o s a => exact rok.ok.1
    | t s a b => exact rok.ok.1
  have bk := fun s => Book_kids (k + 1) t.gl due.sg sg0.1 sg0.2 s
  rw [at_Walk_go_down]
  by_cases j0 : 0 ≤ j
  · have j1 : ¬ j < gi t.gl.ks due.sg := fun q => hj ⟨j0, q⟩
    simp -implicitDefEqProofs [Nat.add_assoc, runN_eq, b_Walk_go_down, mWalk, look_cons, mD, a1, bk, j0, j1]
  · simp -implicitDefEqProofs [Nat.add_assoc, runN_eq, b_Walk_go_down, mWalk, look_cons, mD, a1, bk, j0]

theorem go_down_ok {t : Tn} {x : G0} (ht : t.Ok) (hx : x.Ok t.bk.ks) (hl : x.size ≤ 40) (k : Nat) (s : Sto) {w : M} {due : G0} (hw : WAt t x w due) (j : Int) (j0 : 0 ≤ j) (j1 : j < gi t.gl.ks due.sg) : ∃ w', WAt t x w' (due.kid j) ∧ call prog (k + 3) F_Walk_go_down [.loc s.length, .d (.int j)] (s ++ [w]) = .ok (.d .non) (s ++ [w']) := by
  obtain ⟨h, m, i, u, r, hp, hr, hd, rfl⟩ := hw.ex
  have rok := hp.rok
  have hi : i < m.size := by rw [← T.subs_len]; exact (List.getElem?_eq_some_iff.mp hp.hr).1
  have a1 : atI (m.row hD) i = some (.int due.sg) := by
    rw [hd, ← T.sg_sub hr]
    unfold atI ixOf
    rw [if_pos (by omega), if_pos (by rw [T.row_len]; omega)]
    simp [T.row_subs, hp.hr]
  have sg0 : 0 ≤ due.sg ∧ due.sg < t.gl.ks.length := by
    subst hd
    cases r with
    | v y => exact absurd rfl (hr y)
    | z s => exact rok.ok.1
    | o s a => exact rok.ok.1
    | t s a b => exact rok.ok.1
  have bk := fun s => Book_kids (k + 1) t.gl due.sg sg0.1 sg0.2 s
  cases r with
  | v y => exact absurd rfl (hr y)
  | z sg => have := rok.ok.2; subst hd; simp only [T.sub, T.sg] at j1; omega
  | o sg a =>
    have q : gi t.gl.ks due.sg = 1 := by subst hd; exact rok.ok.2.1
    have : j = 0 := by omega
    subst this
    obtain ⟨w', g1, g2⟩ := go_in_eq ht hx hl k s (⟨hp.hu, hp.hm, T.subs_o hp.hr, hp.hs⟩ : Pos t x h m (i + 1) u a)
    refine ⟨w', by subst hd; exact g1, ?_⟩
    have ho : okQ 0 = true := okQ_of (by omega) (by omega)
    rw [at_Walk_go_down]
    simp -implicitDefEqProofs [Nat.add_assoc, mWalk] at g2
    simp -implicitDefEqProofs [Nat.add_assoc, runN_eq, b_Walk_go_down, mWalk, look_cons, mD, a1, bk, q, putKs, putN, ho, rngD00]
    simp -implicitDefEqProofs [Nat.add_assoc, mD] at g2
    simp -implicitDefEqProofs [Nat.add_assoc, g2]
  | t sg a b =>
    have q : gi t.gl.ks due.sg = 2 := by subst hd; exact rok.ok.2.1
    have : j = 0 ∨ j = 1 := by omega
    obtain ⟨q1, q2⟩ := T.subs_t hp.hr
    rcases this with rfl | rfl
    · obtain ⟨w', g1, g2⟩ := go_in_eq ht hx hl k s (⟨hp.hu, hp.hm, q1, hp.hs⟩ : Pos t x h m (i + 1) u a)
      refine ⟨w', by subst hd; exact g1, ?_⟩
      have ho : okQ 0 = true := okQ_of (by omega) (by omega)
      rw [at_Walk_go_down]
      simp -implicitDefEqProofs [Nat.add_assoc, mWalk] at g2
      simp -implicitDefEqProofs [Nat.add_assoc, runN_eq, b_Walk_go_down, mWalk, look_cons, mD, a1, bk, q, putKs, putN, ho, rngD00]
      simp -implicitDefEqProofs [Nat.add_assoc, mD] at g2
      simp -implicitDefEqProofs [Nat.add_assoc, g2]
    · obtain ⟨w', g1, g2⟩ := go_in_eq ht hx hl k s (⟨hp.hu, hp.hm, q2, hp.hs⟩ : Pos t x h m (i + 1 + a.size) u b)
      refine ⟨w', by subst hd; exact g1, ?_⟩
      have ho : okQ 1 = true := okQ_of (by omega) (by omega)
      obtain ⟨pre, post, e1, e2⟩ := T.sub_row hD m (i + 1) a q1
      have az := T.subs_size m a (List.mem_of_getElem? q1)
      have re := fun s => row_end_eq k s t.gl ht.gl a pre post rok.ok.2.2.1 (by have := hp.hs; omega)
      rw [← e1, e2] at re
      rw [at_Walk_go_down]
      simp -implicitDefEqProofs [Nat.add_assoc, mWalk, mD] at g2
      simp -implicitDefEqProofs [Nat.add_assoc, ] at re
      simp -implicitDefEqProofs [Nat.add_assoc, runN_eq, b_Walk_go_down, mWalk, look_cons, mD, a1, bk, q, putKs, putN, ho, rngD01, forG_cons, u_Walk_go_down_1, re]
      simp -implicitDefEqProofs [Nat.add_assoc, g2]
theorem of_row_eqL {U : Type} {K : Nat} {tn : Tn} (ht : tn.Ok) {inner : D} {enc : T U → D} (H : Hand (K + 1) inner tn.gl.ks enc) (k : Nat) (s : Sto) (m : Mr) (hm : m.Ok tn.gl.ks) (hl : m.size ≤ 10000) (kss : List (List D)) (hk : (kss.map List.length).sum ≤ 9000) (σ : Int × Int → T U)
    (ha : m.All fun x => (σ x).Ok tn.gl.ks ∧ (0 ≤ x.2 ∧ x.2 < kss.length ∧ 0 ≤ x.1 ∧ x.1 < (gi kss x.2).length) ∧ gi (gi kss x.2) x.1 = enc (σ x)) :
    call prog (k + K + 3) F_Through_of_row [.d (oThrough tn inner), .d (mD m), .d (.lst (kss.map .tup))] s = .ok (.d (enc (m.sub σ))) s := by
  rw [at_Through_of_row]
  obtain ⟨ks1, vs1, e1, h1⟩ := of_row_loop2 (k + K + 2) (s.length + 1) s (.d (oThrough tn inner)) (.d (mD m)) (.d (.lst (kss.map .tup))) (enumD 0 (kss.map .tup)) kss 0 [] [] _ DictIs.nil (by simpa using hk)
  have h2 := folded_eq ht.gl H k (s ++ [.dct 1 ks1 vs1]) (.loc s.length) ks1 vs1 (by intro r; simp) σ m hm (ha.mono fun x h => ⟨h.1, by
    rw [h1.get, given2_at, if_pos (by simp; omega)]
    simpa using h.2.2⟩) hl
  simp [runN_eq, b_Through_of_row, e1, look_cons, h2]
end G

set_option maxRecDepth 10000
namespace G
open TT
theorem part_eq {t : Tn} {x : G0} (ht : t.Ok) (hx : x.Ok t.bk.ks) (hl : x.size ≤ 40) (k : Nat) (s : Sto) {w : M} {due : G0} (hw : WAt t x w due) : call prog (k + 7) F_Walk_part [.loc s.length] (s ++ [w]) = if due.size ≤ 200 then .ok (.d (tD due)) (s ++ [w]) else .err X_TooGreat (s ++ [w]) := by
  obtain ⟨h, m, i, u, r, hp, hr, hd, rfl⟩ := hw.ex
  have rok := hp.rok
  have uok := hp.uok hx
  have hi : i < m.size := by rw [← T.subs_len]; exact (List.getElem?_eq_some_iff.mp hp.hr).1
  have hh : h < x.size := by rw [← T.subs_len]; exact (List.getElem?_eq_some_iff.mp hp.hu).1
  have hn : 0 ≤ t.n ∧ t.n ≤ 4000 := by have := ht.most; unfold Tn.n; omega
  have rz := T.subs_size m r (List.mem_of_getElem? hp.hr)
  have hms := hp.hs
  have H1 := built_hand (U := Empty) 200 (by omega) (fun e => e.elim) t.gl.ks
  have H2 := through_hand (K := 0) ht H1 (fun _ x => x.elim : Int → Empty → G0) (fun _ x => x.elim)
  have af := fun s => all_folded_eq (K := 3) ht.bk H2 (k + 1) s x hx (by omega)
  simp only [Nat.add_assoc, Nat.reduceAdd] at af
  let en : G0 → D := bEnc 200 (fun e => e.elim)
  let sts : G0 → List D := fun a => states t.n fun st => en (t.turn a st)
  have tE : ∀ a, tEnc t (fun _ x => x.elim : Int → Empty → G0) (bEnc 200 fun e => e.elim) a = .tup (sts a) := fun a => rfl
  obtain ⟨pre, post, e1, e2⟩ := T.sub_row hD m i r hp.hr
  have re := fun s => row_end_eq (k + 4) s t.gl ht.gl r pre post rok.ok (by omega)
  rw [← e1, e2] at re
  have ct : cut (m.row hD) (some (i : Int)) (some (((i + r.size : Nat) : Int))) = r.row hD := by
    rw [e1, List.append_assoc]
    exact cut_mid _ _ _ _ _ (by omega) (by rw [T.row_len]; omega)
  have b1 : atI ((x.kps 0).map fun l => D.lst (l.map .int)) h = some (.lst ((u.pls h).map .int)) := by
    unfold atI ixOf
    rw [if_pos (by omega), if_pos (by simp [T.kps_len]; omega)]
    simp [T.kps_at, hp.hu]
  have fd : ∀ (h' : Nat) (a : G0), x.subs[h']? = some a → atI x.subs (h' : Int) = some a := fun h' a ha => by
    have hh' : h' < x.size := by rw [← T.subs_len]; exact (List.getElem?_eq_some_iff.mp ha).1
    unfold atI ixOf
    rw [if_pos (by omega), if_pos (by rw [T.subs_len]; omega)]
    simp [ha]
  -- the kids, and what they lead to
  have hk : ∃ kss : List (List D), (kss.map List.length).sum ≤ 9000 ∧ (r.All fun y => (t.below u y).Ok t.gl.ks ∧ (0 ≤ y.2 ∧ y.2 < kss.length ∧ 0 ≤ y.1 ∧ y.1 < (gi kss y.2).length) ∧ gi (gi kss y.2) y.1 = en (t.below u y)) ∧
      ∀ (s : Sto) (w0 w1 w3 w4 : Option W), lcG (cx prog (k + 6)) (.nm 5) .nil (.op true .ix (.cons (.v 2) (.cons (.v 5) .nil))) [w0, w1, some (.d (.lst (x.subs.map (tEnc t (fun _ x => x.elim : Int → Empty → G0) (bEnc 200 fun e => e.elim))))), w3, w4, none] ((u.pls h).map .int, none) s.length ((u.pls h).map .int) (s ++ [.lst []]) = .ok () (s ++ [.lst (kss.map .tup)]) := by
    have key : ∀ (kss : List (List D)), (∀ y : Int × Int, 0 ≤ y.2 → y.2 < gi t.bk.ks u.sg → y.2 < kss.length ∧ gi kss y.2 = sts (u.kid y.2)) → (r.All fun y => (t.below u y).Ok t.gl.ks ∧ (0 ≤ y.2 ∧ y.2 < kss.length ∧ 0 ≤ y.1 ∧ y.1 < (gi kss y.2).length) ∧ gi (gi kss y.2) y.1 = en (t.below u y)) := by
      intro kss hk
      refine rok.all.mono fun y hy => ?_
      obtain ⟨⟨y0, y1⟩, y2, y3⟩ := hy
      obtain ⟨h', k1, k2, k3, k4⟩ := kid_at hp.hu uok y2 y3
      have kok := T.subs_ok x hx _ (List.mem_of_getElem? k3)
      obtain ⟨q1, q2⟩ := hk y y2 y3
      refine ⟨Tn.turn_ok ht kok y0 y1, ⟨y2, q1, y0, ?_⟩, ?_⟩
      · rw [q2]; simp only [sts, states_len]; omega
      · rw [q2]; exact gi_states y0 y1 _
    have hu := hp.hu
    cases u with
    | v e => exact e.elim
    | z sg =>
      refine ⟨[], by simp, key _ (fun y y0 y1 => ?_), fun s w0 w1 w3 w4 => by simp -implicitDefEqProofs [Nat.add_assoc, T.pls]⟩
      have := uok.2; simp only [T.sg] at y1; omega
    | o sg a =>
      have f1 := fd _ _ (T.subs_o hu)
      refine ⟨[sts a], by simp [sts, states_len]; omega, key _ (fun y y0 y1 => ?_), fun s w0 w1 w3 w4 => ?_⟩
      · have := uok.2.1; simp only [T.sg] at y1
        have : y.2 = 0 := by omega
        rw [this]; simp [gi, T.kid]
      · simp -implicitDefEqProofs [Nat.add_assoc, ] at f1
        simp -implicitDefEqProofs [Nat.add_assoc, T.pls, lcG_cons, lcA, f1, tE]
    | t sg a b =>
      have f1 := fd _ _ (T.subs_t hu).1
      have f2 := fd _ _ (T.subs_t hu).2
      refine ⟨[sts a, sts b], by simp [sts, states_len]; omega, key _ (fun y y0 y1 => ?_), fun s w0 w1 w3 w4 => ?_⟩
      · have := uok.2.1; simp only [T.sg] at y1
        have : y.2 = 0 ∨ y.2 = 1 := by omega
        rcases this with q | q <;> rw [q] <;> simp [gi, T.kid]
      · simp -implicitDefEqProofs [Nat.add_assoc, ] at f1 f2
        simp -implicitDefEqProofs [Nat.add_assoc, T.pls, lcG_cons, lcA, f1, f2, tE]
  obtain ⟨kss, k1, k2, k3⟩ := hk
  have ofr := fun s => of_row_eqL ht H1 (k + 3) s r rok.ok (by omega) kss k1 (t.below u) k2
  have k3' := k3 (s ++ [mWalk t x h m i])
  rw [at_Walk_part]
  simp -implicitDefEqProofs [Nat.add_assoc, mWalk, kD, mD] at k3'
  simp -implicitDefEqProofs [Nat.add_assoc, ] at ct re
  by_cases q : due.size ≤ 200
  · subst hd
    have q' : ((r.sub (t.below u)).size : Int) ≤ 200 := by omega
    simp -implicitDefEqProofs [Nat.add_assoc, runN_eq, b_Walk_part, mWalk, look_cons, new_Through, new_Built, af, kD, b1, k3', finC, mD, re, ct]
    simp -implicitDefEqProofs [Nat.add_assoc, mD] at ofr
    simp -implicitDefEqProofs [Nat.add_assoc, ofr, bEnc, told_row_eq, q, q', tD, T.row_nums]
  · subst hd
    have q' : ¬ ((r.sub (t.below u)).size : Int) ≤ 200 := by omega
    simp -implicitDefEqProofs [Nat.add_assoc, runN_eq, b_Walk_part, mWalk, look_cons, new_Through, new_Built, af, kD, b1, k3', finC, mD, re, ct]
    simp -implicitDefEqProofs [Nat.add_assoc, mD] at ofr
    simp -implicitDefEqProofs [Nat.add_assoc, ofr, bEnc, told_row_eq, q, q', tD, T.row_nums]
end G

set_option maxRecDepth 10000
namespace G
open TT
theorem walk_init {t : Tn} (ht : t.Ok) {x : G0} (hx : x.Ok t.bk.ks) (hl : x.size ≤ 40) (k : Nat) (s : Sto) : ∃ w, WAt t x w (t.turn x 0) ∧ newG (call prog (k + 3)) F_Walk___init__ C_Walk false [.d (oTurner t), .d (tD x)] s = .ok (.loc s.length) (s ++ [w]) := by
  have sg := T.sg_ok hx
  have hn : 0 < t.n := by have := ht.pos; unfold Tn.n; omega
  have hp : Pos t x 0 (t.mr 0 x.sg) 0 x (t.mr 0 x.sg) := ⟨T.subs_head x, ht.mr 0 _ (by omega) hn sg.1 sg.2, T.subs_head _, Tn.mr_size ht (by omega) hn sg.1 sg.2⟩
  obtain ⟨w, g1, g2⟩ := go_in_eq ht hx hl k s hp
  refine ⟨w, (turn_below ht hx (by omega) hn) ▸ g1, newG_mut ?_⟩
  have a0 : atI x.nums 0 = some x.sg := by
    cases x with
    | v e => exact e.elim
    | z s => rfl
    | o s a => simp [T.nums, T.sg]
    | t s a b => simp [T.nums, T.sg]
  have kp := fun s => kid_places_eq k s t.bk ht.bk x hx hl
  have tr := fun s => Turner_row (k + 1) ht (st := 0) (by omega) hn sg.1 sg.2 s
  rw [at_Walk___init__]
  simp -implicitDefEqProofs [Nat.add_assoc, mWalk] at g2
  simp -implicitDefEqProofs [Nat.add_assoc, tD] at kp g2
  simp -implicitDefEqProofs [Nat.add_assoc, runN_eq, b_Walk___init__, tD, kp, a0, tr, putKs, putN, look_cons, g2]
theorem part_loop {t : Tn} (ht : t.Ok) {x : G0} (hx : x.Ok t.bk.ks) (hl : x.size ≤ 40) (k n : Nat) (s : Sto) (w0 w1 w2 : W) (g : List D) : ∀ (rest : List Int) (w : M) (due : G0), WAt t x w due →
    (∀ d, goPl t.gl.ks due rest = some d → ∃ w', WAt t x w' d ∧ forG (cx prog (k + 3)) n (.nm 4) [4] l_part_turned_1 (g, none) (rest.map .int) [some w0, some w1, some w2, some (.loc s.length), none] (s ++ [w]) = .ok (.nx, [some w0, some w1, some w2, some (.loc s.length), none]) (s ++ [w'])) ∧
    (goPl t.gl.ks due rest = none → ∃ w', forG (cx prog (k + 3)) n (.nm 4) [4] l_part_turned_1 (g, none) (rest.map .int) [some w0, some w1, some w2, some (.loc s.length), none] (s ++ [w]) = .err X_NoPlace (s ++ [w'])) := by
  intro rest
  induction rest with
  | nil =>
    intro w due hw
    refine ⟨fun d hd => ?_, fun hd => by simp [goPl] at hd⟩
    simp only [goPl, Option.some.injEq] at hd
    subst hd
    exact ⟨w, hw, by simp⟩
  | cons j rest ih =>
    intro w due hw
    have ob : ∃ as vs, w = .obj C_Walk as vs := by
      obtain ⟨h, m, i, u, r, hp, hr, hd, rfl⟩ := hw.ex
      exact ⟨_, _, rfl⟩
    obtain ⟨as, vs, rfl⟩ := ob
    by_cases q : 0 ≤ j ∧ j < gi t.gl.ks due.sg
    · obtain ⟨w', g1, g2⟩ := go_down_ok ht hx hl k s hw j q.1 q.2
      obtain ⟨i1, i2⟩ := ih w' _ g1
      have step : forG (cx prog (k + 3)) n (.nm 4) [4] l_part_turned_1 (g, none) ((j :: rest).map .int) [some w0, some w1, some w2, some (.loc s.length), none] (s ++ [.obj C_Walk as vs]) = forG (cx prog (k + 3)) n (.nm 4) [4] l_part_turned_1 (g, none) (rest.map .int) [some w0, some w1, some w2, some (.loc s.length), none] (s ++ [w']) := by
        simp -implicitDefEqProofs [Nat.add_assoc, forG_cons, u_part_turned_1, g2]
      rw [step]
      simp only [goPl, if_pos q]
      exact ⟨i1, i2⟩
    · have g2 := go_down_no ht hx k s hw j q
      simp only [goPl, if_neg q]
      refine ⟨fun d hd => (by cases hd), fun _ => ⟨.obj C_Walk as vs, ?_⟩⟩
      · simp -implicitDefEqProofs [Nat.add_assoc, forG_cons, u_part_turned_1, g2]
theorem part_turned_eq {t : Tn} (ht : t.Ok) {x : G0} (hx : x.Ok t.bk.ks) (hl : x.size ≤ 40) (k : Nat) (s : Sto) (pl : List Int) : call prog (k + 8) F_part_turned [.d (oTurner t), .d (tD x), .d (.tup (pl.map .int))] s = match goPl t.gl.ks (t.turn x 0) pl with
    | some d => if d.size ≤ 200 then .ok (.d (tD d)) s else .err X_TooGreat s
    | none => .err X_NoPlace s := by
  have ck := fun s => check_tree_ok (k + 3) t.bk ht.bk x hx hl s
  obtain ⟨w, g1, g2⟩ := walk_init ht hx hl (k + 3) s
  obtain ⟨i1, i2⟩ := part_loop ht hx hl (k + 4) (s.length + 1) s (.d (oTurner t)) (.d (tD x)) (.d (.tup (pl.map .int))) (pl.map .int) pl w _ g1
  rw [at_part_turned]
  cases q : goPl t.gl.ks (t.turn x 0) pl with
  | none =>
    obtain ⟨w', e⟩ := i2 q
    simp -implicitDefEqProofs [Nat.add_assoc, runN_eq, b_part_turned, ck, g2, e]
  | some d =>
    obtain ⟨w', g3, e⟩ := i1 d q
    have ob : ∃ as vs, w' = .obj C_Walk as vs := by
      obtain ⟨h, m, i, u, r, hp, hr, hd, rfl⟩ := g3.ex
      exact ⟨_, _, rfl⟩
    obtain ⟨as, vs, rfl⟩ := ob
    have pe := part_eq ht hx hl k s g3
    by_cases z : d.size ≤ 200
    · simp -implicitDefEqProofs [Nat.add_assoc, runN_eq, b_part_turned, ck, g2, e, pe, z]
    · simp -implicitDefEqProofs [Nat.add_assoc, runN_eq, b_part_turned, ck, g2, e, pe, z]
end G

set_option maxRecDepth 10000
/-! the law's own defs that draw -/
namespace TT
def bx (n : Int) : M := .lst [.int n]
end TT
namespace G
open TT
open PySem (Str)
theorem cell_eq (k : Nat) (ns : List Int) (i : Nat) (s : Sto) : call prog (k + 1) F__law_cell [.d (.rol (ns.map .int)), .d (.int i)] s = .ok (.d (.int (ns.getD i 0))) s := by
  rw [at__law_cell]
  by_cases h : i < ns.length
  · simp [runN_eq, b__law_cell, h, atI, ixOf]
  · simp [runN_eq, b__law_cell, h, atI, ixOf]
theorem take_eq (k : Nat) (n b : Int) (h1 : 0 < b) (h2 : b < 1073741824) (p s : Sto) : call prog (k + 1) F__law_take [.loc p.length, .d (.int b)] (p ++ bx n :: s) = .ok (.d (.int (n % b))) (p ++ bx (n / b) :: s) := by
  rw [at__law_take]
  simp [runN_eq, b__law_take, bx, atI, ixOf, h1, h2, setAll]
theorem take_ok (k : Nat) (n b : Int) (h1 : 0 < b) (h2 : b < 1073741824) (p s : Sto) : ∃ d n', call prog (k + 1) F__law_take [.loc p.length, .d (.int b)] (p ++ bx n :: s) = .ok (.d (.int d)) (p ++ bx n' :: s) ∧ 0 ≤ d ∧ d < b :=
  ⟨_, _, take_eq k n b h1 h2 p s, Int.emod_nonneg _ (by omega), Int.emod_lt_of_pos _ h1⟩
def mixL : List Int := [48271, 69621, 16807, 39373, 30269, 40014, 40692, 50021, 61687, 71993, 83869, 95561, 30307]
theorem mix_ix (j : Int) : ∃ v : Int, atI (mixL.map D.int) (j % 13) = some (.int v) ∧ -18446744073709551616 < v ∧ v < 18446744073709551616 := by
  have h1 : 0 ≤ j % 13 := Int.emod_nonneg _ (by decide)
  have h2 : j % 13 < 13 := Int.emod_lt_of_pos _ (by decide)
  obtain ⟨m, hm⟩ := Int.eq_ofNat_of_zero_le h1
  rw [hm] at h2 ⊢
  have : m < 13 := by omega
  match m, this with
  | 0, _ | 1, _ | 2, _ | 3, _ | 4, _ | 5, _ | 6, _ | 7, _ | 8, _ | 9, _ | 10, _ | 11, _ | 12, _ => exact ⟨_, rfl, by decide, by decide⟩
theorem bg_mod (i : Int) : bg (i % 1000000007) = true := by
  have h1 : 0 ≤ i % 1000000007 := Int.emod_nonneg _ (by decide)
  have h2 : i % 1000000007 < 1000000007 := Int.emod_lt_of_pos _ (by decide)
  exact bg_of (by omega) (by omega)
theorem mix_ok (k : Nat) (c j : Int) (s : Sto) : ∃ v : Int, call prog (k + 1) F__law_mix [.d (.int c), .d (.int j)] s = .ok (.d (.int v)) s := by
  rw [at__law_mix]
  obtain ⟨v, h1, h2, h3⟩ := mix_ix j
  have b0 : bg v = true := bg_of h2 h3
  simp only [mixL, List.map_cons, List.map_nil] at h1
  simp [runN_eq, b__law_mix, h1, b0, bg_mod]
theorem box_loop (k n : Nat) (s : Sto) (w1 w2 : W) (c lap : Int) (g : List D) : ∀ (m : Nat) (j v : Int), ∃ v' : Int, forG (cx prog (k + 1)) n (.nm 5) [5] l__law_box_1 (g, none) (rngD j (j + m)) [some w1, some w2, some (.d (.int lap)), some (.d (.int c)), some (.d (.int v)), none] s = .ok (.nx, [some w1, some w2, some (.d (.int lap)), some (.d (.int c)), some (.d (.int v')), none]) s := by
  intro m
  induction m with
  | zero => intro j v; exact ⟨v, by simp [rngD_nil]⟩
  | succ m ih =>
    intro j v
    obtain ⟨x, hx⟩ := mix_ok k c (90 * lap + j) s
    obtain ⟨v', h⟩ := ih (j + 1) (v * 142857143 + x)
    refine ⟨v', ?_⟩
    rw [rngD_cons (by omega), ← h]
    rw [show j + 1 + (m : Int) = j + ((m : Int) + 1) by omega]
    simp [forG_cons, u__law_box_1, hx]
theorem box_ok (k : Nat) (ns : List Int) (i : Nat) (lap : Int) (s : Sto) : ∃ n : Int, call prog (k + 2) F__law_box [.d (.rol (ns.map .int)), .d (.int i), .d (.int lap)] s = .ok (.loc s.length) (s ++ [bx n]) := by
  have hc := cell_eq k ns i s
  generalize hv : ns.getD i 0 = c at hc
  rw [at__law_box]
  obtain ⟨v, hl⟩ := box_loop k s.length s (.d (.rol (ns.map .int))) (.d (.int i)) c lap (rngD 0 90) 90 0 0
  by_cases h1 : c % 2 = 0
  · by_cases h2 : lap = 0
    · exact ⟨_, by simp [runN_eq, b__law_box, hc, fair, D.pl, h1, h2, leave_loc, bx]; rfl⟩
    · refine ⟨v, ?_⟩
      simp at hl
      simp [runN_eq, b__law_box, hc, fair, D.pl, h1, h2, leave_loc, bx, hl]
  · refine ⟨v, ?_⟩
    simp at hl
    simp [runN_eq, b__law_box, hc, fair, D.pl, h1, leave_loc, bx, hl]
theorem numbers_eq (k : Nat) (sg : Sg) (hl : sg.length ≤ 10000) (s : Sto) : call prog (k + 1) F__law_numbers [.d sg.d] s = .ok (.d (.lst (sg.ks.map .int))) s := by
  have e := lcG_map1 (c := cx prog k) (n := s.length) (tg := .tp [1, 2]) (g := (sg.map fun x => .tup [.str x.1, .int x.2], none)) (ifs := .nil) (elt := .v 2) (e := [some (.d sg.d), none, none]) (s := s) (fun x => .tup [.str x.1, .int x.2]) (fun x => .int x.2) sg hl (fun x _ acc r h => by simp [lcG_cons, lcA, h])
  rw [at__law_numbers]
  simp [Sg.d] at e
  simp [runN_eq, b__law_numbers, Sg.d, e, finC, Sg.ks, Function.comp_def]
end G

set_option maxRecDepth 10000
namespace TT
theorem gi_nat {α : Type} [Inhabited α] (l : List α) (i : Nat) : gi l (i : Int) = l.getD i default := by
  unfold gi; simp
theorem atI_mem {α : Type} [Inhabited α] {l : List α} {d : Int} (h0 : 0 ≤ d) (h1 : d < l.length) : ∃ x ∈ l, atI l d = some x :=
  ⟨_, gi_mem h0 h1, atI_ok h0 h1⟩
theorem atI_mem' {α : Type} {l : List α} {d : Int} (h0 : 0 ≤ d) (h1 : d < l.length) : ∃ x ∈ l, atI l d = some x := by
  have : d.toNat < l.length := by omega
  refine ⟨l[d.toNat], List.getElem_mem _, ?_⟩
  unfold atI ixOf
  rw [if_pos h0, if_pos h1]
  simp [this]
end TT
namespace G
open TT
theorem some_eq (k n : Nat) (s : Sto) (e : Env) (ks : List Int) (hk : ks.length ≤ 6) (row : List D) (w most : Int) (g : List D) (elt : E) (vk vr vw vm : Nat) (tgn : Nat) (ifs : Es)
    (h : ∀ i : Nat, i < ks.length → ∀ acc r, sm acc.length = true → lcG (cx prog k) (.nm tgn) ifs elt e (g, none) n (.int i :: r) (s ++ [.lst acc]) = lcG (cx prog k) (.nm tgn) ifs elt e (g, none) n r (s ++ [.lst (if decide ((row.length : Int) + w + gi ks i ≤ most) then acc ++ [.int i] else acc)])) :
    lcG (cx prog k) (.nm tgn) ifs elt e (g, none) n (rngD 0 ks.length) (s ++ [.lst []]) = lcG (cx prog k) (.nm tgn) ifs elt e (g, none) n [] (s ++ [.lst (((List.range ks.length).filter fun (i : Nat) => decide ((row.length : Int) + w + gi ks i ≤ most)).map fun (i : Nat) => .int i)]) := by
  rw [rngD_nat]
  exact lcG_filt (fun (i : Nat) => D.int i) (fun (i : Nat) => decide ((row.length : Int) + w + gi ks i ≤ most)) (fun (i : Nat) => D.int i) (List.range ks.length) (by simp; omega) fun i hi acc r ha => h i (by simpa using hi) acc r ha
end G

set_option maxRecDepth 10000
namespace G
open TT
theorem tree_loop (k n : Nat) (ks : List Int) (hk : KsOk ks) (most : Int) (hm : most ≤ 5000) (p s : Sto) : ∀ (m fuel : Nat) (row : List D) (w : Nat) (bn : Int) (o6 : Option W), m < fuel → (row.length : Int) + w ≤ most → most - row.length ≤ m → PreT (fun e : Empty => e.elim) (fun t => t.Ok ks) row w →
    ∃ row' bn' o6', whlG (cx prog (k + 1)) n (.op true .gt (.cons (.v 4) (.cons (.k (.int 0)) .nil))) [5] l__law_tree_1 fuel [some (.loc p.length), some (.d (.lst (ks.map .int))), some (.d (.int most)), some (.loc (p.length + (s.length + 1))), some (.d (.int w)), none, o6] (p ++ bx bn :: (s ++ [.lst row])) = .ok (.nx, [some (.loc p.length), some (.d (.lst (ks.map .int))), some (.d (.int most)), some (.loc (p.length + (s.length + 1))), some (.d (.int 0)), none, o6']) (p ++ bx bn' :: (s ++ [.lst row'])) ∧ (row'.length : Int) ≤ most ∧ PreT (fun e : Empty => e.elim) (fun t => t.Ok ks) row' 0 := by
  intro m
  induction m with
  | zero =>
    intro fuel row w bn o6 hf h1 h2 h3
    have : w = 0 := by omega
    subst this
    obtain ⟨fuel, rfl⟩ : ∃ f, fuel = f + 1 := ⟨fuel - 1, by omega⟩
    refine ⟨row, bn, o6, ?_, by omega, h3⟩
    simp [whlG_succ]
  | succ m ih =>
    intro fuel row w bn o6 hf h1 h2 h3
    obtain ⟨fuel, rfl⟩ : ∃ f, fuel = f + 1 := ⟨fuel - 1, by omega⟩
    match w with
    | 0 =>
      refine ⟨row, bn, o6, ?_, by omega, h3⟩
      simp [whlG_succ]
    | w + 1 =>
      have e := some_eq (k + 1) (p.length + (s.length + 1 + 1)) (p ++ bx bn :: (s ++ [.lst row])) [some (.loc p.length), some (.d (.lst (ks.map .int))), some (.d (.int most)), some (.loc (p.length + (s.length + 1))), some (.d (.int (w + 1 : Nat))), none, none] ks hk.most row (w + 1 : Nat) most (rngD 0 ks.length)
        (.v 6) 0 0 0 0 6 (.cons (.op true .le (.cons (.op true .add (.cons (.op true .add (.cons (.op true .len (.cons (.v 3) .nil)) (.cons (.v 4) .nil))) (.cons (.op true .ix (.cons (.v 1) (.cons (.v 6) .nil))) .nil))) (.cons (.v 2) .nil))) .nil) (fun i hi acc r ha => by
          have a1 : atI ks i = some (gi ks i) := atI_ok (by omega) (by omega)
          by_cases q : (row.length : Int) + (w + 1 : Nat) + gi ks i ≤ most
          · simp at q
            simp [lcG_cons, lcA, a1, q, ha]
          · simp at q
            have q' : ¬ ((row.length : Int) + (↑w + 1) + gi ks ↑i ≤ most) := by omega
            simp [lcG_cons, lcA, a1, q'])
      generalize hl : ((List.range ks.length).filter fun (i : Nat) => decide ((row.length : Int) + (w + 1 : Nat) + gi ks i ≤ most)) = l at e
      have hlm : ∀ i ∈ l, i < ks.length ∧ (row.length : Int) + (w + 1 : Nat) + gi ks i ≤ most := by
        intro i hi
        rw [← hl] at hi
        simpa using hi
      have hlp : 0 < l.length := by
        obtain ⟨i, i0, i1, i2⟩ := hk.leaf
        have : i.toNat ∈ l := by
          rw [← hl]
          simp only [List.mem_filter, List.mem_range, decide_eq_true_eq]
          rw [show ((i.toNat : Nat) : Int) = i by omega]
          omega
        exact List.length_pos_of_mem this
      have hll : l.length ≤ 6 := by
        rw [← hl]
        have := List.length_filter_le (fun (i : Nat) => decide ((row.length : Int) + (w + 1 : Nat) + gi ks i ≤ most)) (List.range ks.length)
        have := hk.most
        simp at *
        omega
      obtain ⟨d, bn1, ht, d0, d1⟩ := take_ok k bn l.length (by omega) (by omega) p (s ++ [.lst row])
      obtain ⟨i, him, hi⟩ := atI_mem' d0 d1
      have hi2 := hlm i him
      have a1 : atI ks i = some (gi ks i) := atI_ok (by omega) (by omega)
      have hg := hk.two _ (gi_mem (ks := ks) (x := i) (by omega) (by omega))
      have hs : sm row.length = true := sm_of (by omega)
      have ho : okQ ks.length = true := okQ_of (by omega) (by have := hk.most; omega)
      obtain ⟨row', bn', o6', r1, r2, r3⟩ := ih fuel (row ++ [.int i]) (w + (gi ks i).toNat) bn1 (some (.d (.int i))) (by omega) (by simp; omega) (by simp; omega) (h3.sign (cl_ok ks) hk.two (by omega) (by omega))
      refine ⟨row', bn', o6', ?_, r2, r3⟩
      rw [← r1]
      simp [Nat.add_assoc] at e
      have hw : (0 : Int) < w + 1 := by omega
      have ew : (w : Int) + 1 + gi ks i - 1 = w + max (gi ks i) 0 := by omega
      simp -implicitDefEqProofs [Nat.add_assoc, whlG_succ, hw, u__law_tree_1, ho, e, finC, ht, hi, hs, a1, ew]
theorem tree_ok (k : Nat) (ks : List Int) (hk : KsOk ks) (most : Int) (hm0 : 1 ≤ most) (hm : most ≤ 5000) (bn : Int) (p s : Sto) : ∃ (t : G0) (bn' : Int), call prog (k + 2) F__law_tree [.loc p.length, .d (.lst (ks.map .int)), .d (.int most)] (p ++ bx bn :: s) = .ok (.d (tD t)) (p ++ bx bn' :: s) ∧ t.Ok ks ∧ (t.size : Int) ≤ most := by
  obtain ⟨row', bn', o6', r1, r2, r3⟩ := tree_loop k (p.length + (s.length + 1 + 1)) ks hk most hm p s most.toNat 1000000 [] 1 bn none (by omega) (by simp; omega) (by simp; omega) (PreT.start _ _)
  obtain ⟨t, t1, t2⟩ := r3.fin
  refine ⟨t, bn', ?_, t1, by rw [← t2, T.row_len] at r2; exact r2⟩
  rw [T.row_nums] at t2
  rw [at__law_tree]
  simp -implicitDefEqProofs [Nat.add_assoc, ] at r1
  simp -implicitDefEqProofs [Nat.add_assoc, runN_eq, b__law_tree, r1, tD, t2]
end G

set_option maxRecDepth 10000
namespace G
open TT
theorem made_loop (k n : Nat) (ks : List Int) (hk : KsOk ks) (most states kd : Int) (hm : most ≤ 5000) (hs0 : 1 ≤ states) (hs1 : states ≤ 1000) (hd0 : 0 ≤ kd) (hd1 : kd ≤ 1000) (p s : Sto) : ∀ (m fuel : Nat) (row : List D) (w : Nat) (bn : Int) (o7 o8 : Option W), m < fuel → (row.length : Int) + w ≤ most → most - row.length ≤ m → PreT hD (MrOk ks states kd) row w →
    ∃ row' bn' o7' o8', whlG (cx prog (k + 1)) n (.op true .gt (.cons (.v 6) (.cons (.k (.int 0)) .nil))) [7] l__law_made_1 fuel [some (.loc p.length), some (.d (.int kd)), some (.d (.lst (ks.map .int))), some (.d (.int states)), some (.d (.int most)), some (.loc (p.length + (s.length + 1))), some (.d (.int w)), o7, o8] (p ++ bx bn :: (s ++ [.lst row])) = .ok (.nx, [some (.loc p.length), some (.d (.int kd)), some (.d (.lst (ks.map .int))), some (.d (.int states)), some (.d (.int most)), some (.loc (p.length + (s.length + 1))), some (.d (.int 0)), o7', o8']) (p ++ bx bn' :: (s ++ [.lst row'])) ∧ (row'.length : Int) ≤ most ∧ PreT hD (MrOk ks states kd) row' 0 := by
  intro m
  induction m with
  | zero =>
    intro fuel row w bn o7 o8 hf h1 h2 h3
    have : w = 0 := by omega
    subst this
    obtain ⟨fuel, rfl⟩ : ∃ f, fuel = f + 1 := ⟨fuel - 1, by omega⟩
    refine ⟨row, bn, o7, o8, ?_, by omega, h3⟩
    simp [whlG_succ]
  | succ m ih =>
    intro fuel row w bn o7 o8 hf h1 h2 h3
    obtain ⟨fuel, rfl⟩ : ∃ f, fuel = f + 1 := ⟨fuel - 1, by omega⟩
    match w with
    | 0 =>
      refine ⟨row, bn, o7, o8, ?_, by omega, h3⟩
      simp [whlG_succ]
    | w + 1 =>
      have e := some_eq (k + 1) (p.length + (s.length + 1 + 1)) (p ++ bx bn :: (s ++ [.lst row])) [some (.loc p.length), some (.d (.int kd)), some (.d (.lst (ks.map .int))), some (.d (.int states)), some (.d (.int most)), some (.loc (p.length + (s.length + 1))), some (.d (.int (w + 1 : Nat))), o7, none] ks hk.most row (w + 1 : Nat) most (rngD 0 ks.length)
        (.v 8) 0 0 0 0 8 (.cons (.op true .le (.cons (.op true .add (.cons (.op true .add (.cons (.op true .len (.cons (.v 5) .nil)) (.cons (.v 6) .nil))) (.cons (.op true .ix (.cons (.v 2) (.cons (.v 8) .nil))) .nil))) (.cons (.v 4) .nil))) .nil) (fun i hi acc r ha => by
          have a1 : atI ks i = some (gi ks i) := atI_ok (by omega) (by omega)
          by_cases q : (row.length : Int) + (w + 1 : Nat) + gi ks i ≤ most
          · simp at q
            simp [lcG_cons, lcA, a1, q, ha]
          · simp at q
            have q' : ¬ ((row.length : Int) + (↑w + 1) + gi ks ↑i ≤ most) := by omega
            simp [lcG_cons, lcA, a1, q'])
      generalize hl : ((List.range ks.length).filter fun (i : Nat) => decide ((row.length : Int) + (w + 1 : Nat) + gi ks i ≤ most)) = l at e
      have hlm : ∀ i ∈ l, i < ks.length ∧ (row.length : Int) + (w + 1 : Nat) + gi ks i ≤ most := by
        intro i hi
        rw [← hl] at hi
        simpa using hi
      have hlp : 0 < l.length := by
        obtain ⟨i, i0, i1, i2⟩ := hk.leaf
        have : i.toNat ∈ l := by
          rw [← hl]
          simp only [List.mem_filter, List.mem_range, decide_eq_true_eq]
          rw [show ((i.toNat : Nat) : Int) = i by omega]
          omega
        exact List.length_pos_of_mem this
      have hll : l.length ≤ 6 := by
        rw [← hl]
        have := List.length_filter_le (fun (i : Nat) => decide ((row.length : Int) + (w + 1 : Nat) + gi ks i ≤ most)) (List.range ks.length)
        have := hk.most
        simp at *
        omega
      have hs : sm row.length = true := sm_of (by omega)
      have ho : okQ ks.length = true := okQ_of (by omega) (by have := hk.most; omega)
      have hw : (0 : Int) < w + 1 := by omega
      simp [Nat.add_assoc] at e
      by_cases hkd : 0 < kd
      · obtain ⟨d, bn1, ht, d0, d1⟩ := take_ok k bn 5 (by omega) (by omega) p (s ++ [.lst row])
        by_cases hd : 2 < d
        · obtain ⟨x, bn2, ht2, x0, x1⟩ := take_ok k bn1 states (by omega) (by omega) p (s ++ [.lst row])
          obtain ⟨y, bn3, ht3, y0, y1⟩ := take_ok k bn2 kd (by omega) (by omega) p (s ++ [.lst row])
          obtain ⟨row', bn', o7', o8', r1, r2, r3⟩ := ih fuel (row ++ [hD (x, y)]) w bn3 none o8 (by omega) (by simp; omega) (by simp; omega) (h3.hole ⟨trivial, ⟨x0, x1⟩, y0, y1⟩)
          refine ⟨row', bn', o7', o8', ?_, r2, r3⟩
          rw [← r1]
          simp -implicitDefEqProofs [Nat.add_assoc, whlG_succ, hw, u__law_made_1, ho, e, finC, hkd, ht, hd, ht2, ht3, hs, hD]
        · obtain ⟨d2, bn2, ht2, x0, x1⟩ := take_ok k bn1 l.length (by omega) (by omega) p (s ++ [.lst row])
          obtain ⟨i, him, hi⟩ := atI_mem' x0 x1
          have hi2 := hlm i him
          have a1 : atI ks i = some (gi ks i) := atI_ok (by omega) (by omega)
          have hg := hk.two _ (gi_mem (ks := ks) (x := i) (by omega) (by omega))
          obtain ⟨row', bn', o7', o8', r1, r2, r3⟩ := ih fuel (row ++ [.int i]) (w + (gi ks i).toNat) bn2 none (some (.d (.int i))) (by omega) (by simp; omega) (by simp; omega) (h3.sign (cl_mr ks states kd) hk.two (by omega) (by omega))
          refine ⟨row', bn', o7', o8', ?_, r2, r3⟩
          rw [← r1]
          have ew : (w : Int) + 1 + gi ks i - 1 = w + max (gi ks i) 0 := by omega
          simp -implicitDefEqProofs [Nat.add_assoc, whlG_succ, hw, u__law_made_1, ho, e, finC, hkd, ht, hd, ht2, hi, hs, a1, ew]
      · obtain ⟨d2, bn2, ht2, x0, x1⟩ := take_ok k bn l.length (by omega) (by omega) p (s ++ [.lst row])
        obtain ⟨i, him, hi⟩ := atI_mem' x0 x1
        have hi2 := hlm i him
        have a1 : atI ks i = some (gi ks i) := atI_ok (by omega) (by omega)
        have hg := hk.two _ (gi_mem (ks := ks) (x := i) (by omega) (by omega))
        obtain ⟨row', bn', o7', o8', r1, r2, r3⟩ := ih fuel (row ++ [.int i]) (w + (gi ks i).toNat) bn2 none (some (.d (.int i))) (by omega) (by simp; omega) (by simp; omega) (h3.sign (cl_mr ks states kd) hk.two (by omega) (by omega))
        refine ⟨row', bn', o7', o8', ?_, r2, r3⟩
        rw [← r1]
        have ew : (w : Int) + 1 + gi ks i - 1 = w + max (gi ks i) 0 := by omega
        simp -implicitDefEqProofs [Nat.add_assoc, whlG_succ, hw, u__law_made_1, ho, e, finC, hkd, ht2, hi, hs, a1, ew]
theorem made_ok (k : Nat) (ks : List Int) (hk : KsOk ks) (most states kd : Int) (hm0 : 1 ≤ most) (hm : most ≤ 5000) (hs0 : 1 ≤ states) (hs1 : states ≤ 1000) (hd0 : 0 ≤ kd) (hd1 : kd ≤ 1000) (bn : Int) (p s : Sto) : ∃ (t : Mr) (bn' : Int), call prog (k + 2) F__law_made [.loc p.length, .d (.int kd), .d (.lst (ks.map .int)), .d (.int states), .d (.int most)] (p ++ bx bn :: s) = .ok (.d (mD t)) (p ++ bx bn' :: s) ∧ MrOk ks states kd t ∧ (t.size : Int) ≤ most := by
  obtain ⟨row', bn', o7', o8', r1, r2, r3⟩ := made_loop k (p.length + (s.length + 1 + 1)) ks hk most states kd hm hs0 hs1 hd0 hd1 p s most.toNat 1000000 [] 1 bn none none (by omega) (by simp; omega) (by simp; omega) (PreT.start _ _)
  obtain ⟨t, t1, t2⟩ := r3.fin
  refine ⟨t, bn', ?_, t1, by rw [← t2, T.row_len] at r2; exact r2⟩
  rw [at__law_made]
  simp -implicitDefEqProofs [Nat.add_assoc, ] at r1
  simp -implicitDefEqProofs [Nat.add_assoc, runN_eq, b__law_made, r1, mD, t2]
end G

set_option maxRecDepth 10000
namespace TT
/-- drawn made rows -/
structure RowsDr (ks gl : List Int) (most : Int) (rows : List (List Mr)) : Prop where
  pos : 1 ≤ rows.length
  three : rows.length ≤ 3
  len : ∀ r ∈ rows, r.length = ks.length
  mr : ∀ r ∈ rows, ∀ (i : Nat) (m : Mr), r[i]? = some m → MrOk gl rows.length (gi ks i) m ∧ (m.size : Int) ≤ most
theorem RowsDr.ok {b g : Bk} {most : Int} {rows : List (List Mr)} (h : RowsDr b.ks g.ks most rows) (hm : most ≤ 8) : RowsOk b g rows := ⟨h.pos, h.three, h.len, fun r hr i m hi => ⟨(h.mr r hr i m hi).1, by have := (h.mr r hr i m hi).2; omega⟩⟩
end TT

set_option maxRecDepth 10000
namespace G
open TT
open PySem (Str)
theorem let_len : (Str.length "abcdefghijklmnopqrstuvwxyz") = 26 := by decide +kernel
theorem let_ix (i : Int) (h0 : 0 ≤ i) (h1 : i < 26) (s : Sto) : opSem .ix [.d (.str "abcdefghijklmnopqrstuvwxyz"), .d (.int i)] s = .ok (.w (.d (.str ⟨#[97 + i.toNat]⟩))) s := by
  have e : atI (Str.cps "abcdefghijklmnopqrstuvwxyz").toList i = some (97 + i.toNat) := by
    have := LET_list
    unfold LET at this
    rw [this, atI_ok h0 (by simp; omega)]
    unfold gi
    have : i.toNat < 26 := by omega
    simp [List.getD, this]
  have hs : sm (Str.length "abcdefghijklmnopqrstuvwxyz") = true := sm_of (by rw [let_len]; omega)
  rw [o_ix_s, hs, e]
  rfl
theorem len1 (c : Nat) : Str.length ⟨#[c]⟩ = 1 := rfl
theorem app1 (a b : Nat) : (⟨#[a]⟩ : Str) ++ ⟨#[b]⟩ = ⟨#[a, b]⟩ := rfl
theorem signs_loop (k n : Nat) (leaf : Int) (w2 : W) (g : List D) (p s : Sto) : ∀ (d : Nat) (j : Int) (acc : Sg) (bn : Int), 0 ≤ j → acc.length + d ≤ 10000 →
    ∃ (sg : Sg) (bn' : Int), forG (cx prog (k + 1)) n (.nm 5) [5, 6, 7] l__law_signs_1 (g, none) (rngD j (j + d)) [some (.loc p.length), some (.d (.str "abcdefghijklmnopqrstuvwxyz")), some w2, some (.d (.int leaf)), some (.loc (p.length + (s.length + 1))), none, none, none] (p ++ bx bn :: (s ++ [.lst (acc.map fun x => .tup [.str x.1, .int x.2])])) = .ok (.nx, [some (.loc p.length), some (.d (.str "abcdefghijklmnopqrstuvwxyz")), some w2, some (.d (.int leaf)), some (.loc (p.length + (s.length + 1))), none, none, none]) (p ++ bx bn' :: (s ++ [.lst ((acc ++ sg).map fun x => .tup [.str x.1, .int x.2])])) ∧ sg.length = d ∧ ∀ (i : Nat) (x : Str × Int), sg[i]? = some x → DrAt leaf (j + i) x := by
  intro d
  induction d with
  | zero => intro j acc bn hj hl; exact ⟨[], bn, by simp -implicitDefEqProofs [Nat.add_assoc, rngD_nil], rfl, by simp⟩
  | succ d ih =>
    intro j acc bn hj hl
    have hs : sm acc.length = true := sm_of (by omega)
    have one : ∃ (x : Str × Int) (bn1 : Int), DrAt leaf j x ∧ ∀ r, forG (cx prog (k + 1)) n (.nm 5) [5, 6, 7] l__law_signs_1 (g, none) (.int j :: r) [some (.loc p.length), some (.d (.str "abcdefghijklmnopqrstuvwxyz")), some w2, some (.d (.int leaf)), some (.loc (p.length + (s.length + 1))), none, none, none] (p ++ bx bn :: (s ++ [.lst (acc.map fun x => .tup [.str x.1, .int x.2])])) = forG (cx prog (k + 1)) n (.nm 5) [5, 6, 7] l__law_signs_1 (g, none) r [some (.loc p.length), some (.d (.str "abcdefghijklmnopqrstuvwxyz")), some w2, some (.d (.int leaf)), some (.loc (p.length + (s.length + 1))), none, none, none] (p ++ bx bn1 :: (s ++ [.lst ((acc ++ [x]).map fun x => .tup [.str x.1, .int x.2])])) := by
      obtain ⟨a, b1, t1, a0, a1⟩ := take_ok k bn 4 (by omega) (by omega) p (s ++ [.lst (acc.map fun x => .tup [.str x.1, .int x.2])])
      obtain ⟨b, b2, t2, b0, b1'⟩ := take_ok k b1 4 (by omega) (by omega) p (s ++ [.lst (acc.map fun x => .tup [.str x.1, .int x.2])])
      have i1 := let_ix ((7 * (4 * j + a) + 13) % 26) (Int.emod_nonneg _ (by omega)) (Int.emod_lt_of_pos _ (by omega))
      have hz : ∀ c : Int, c = 0 ∨ c = 1 ∨ c = 2 → ∃ q : Int, 0 ≤ q ∧ q ≤ 2 ∧ atI [D.int 2, D.int 1, D.int 0] c = some (.int q) ∧ bg q = true := by
        intro c h
        rcases h with h | h | h <;> subst h
        · exact ⟨2, by omega, by omega, rfl, bg_of (by omega) (by omega)⟩
        · exact ⟨1, by omega, by omega, rfl, bg_of (by omega) (by omega)⟩
        · exact ⟨0, by omega, by omega, rfl, bg_of (by omega) (by omega)⟩
      by_cases hb : b = 3
      · obtain ⟨c, b3, t3, c0, c1⟩ := take_ok k b2 26 (by omega) (by omega) p (s ++ [.lst (acc.map fun x => .tup [.str x.1, .int x.2])])
        obtain ⟨e, b4, t4, e0, e1⟩ := take_ok k b3 3 (by omega) (by omega) p (s ++ [.lst (acc.map fun x => .tup [.str x.1, .int x.2])])
        obtain ⟨q, q0, q1, q2, q3⟩ := hz e (by omega)
        have i2 := let_ix c c0 c1
        refine ⟨(⟨#[97 + ((7 * (4 * j + a) + 13) % 26).toNat, 97 + c.toNat]⟩, q * if j = leaf then 0 else 1), b4, ⟨⟨a, a0, a1, ?_⟩, ?_, ?_, ?_⟩, ?_⟩
        · simp [hc]; omega
        · refine ⟨by show 1 ≤ 2; omega, by show 2 ≤ 2; omega, ?_⟩
          intro x hx
          simp at hx
          omega
        · simp only; split <;> omega
        · intro h; simp [h]
        · intro r
          have bg4 : bg 4 = true := bg_of (by omega) (by omega)
          have bg7 : bg 7 = true := bg_of (by omega) (by omega)
          by_cases hj : j = leaf
          · subst hj
            simp -implicitDefEqProofs [Nat.add_assoc, forG_cons, u__law_signs_1, t1, i1, t2, hb, t3, i2, t4, q2, q3, hs, fair, D.pl, len1, app1, bg4, bg7]
          · simp -implicitDefEqProofs [Nat.add_assoc, forG_cons, u__law_signs_1, t1, i1, t2, hb, t3, i2, t4, q2, q3, hs, fair, D.pl, len1, app1, hj, bg4, bg7]
      · obtain ⟨e, b4, t4, e0, e1⟩ := take_ok k b2 3 (by omega) (by omega) p (s ++ [.lst (acc.map fun x => .tup [.str x.1, .int x.2])])
        obtain ⟨q, q0, q1, q2, q3⟩ := hz e (by omega)
        refine ⟨(⟨#[97 + ((7 * (4 * j + a) + 13) % 26).toNat]⟩, q * if j = leaf then 0 else 1), b4, ⟨⟨a, a0, a1, ?_⟩, ?_, ?_, ?_⟩, ?_⟩
        · simp [hc]; omega
        · refine ⟨by show 1 ≤ 1; omega, by show 1 ≤ 2; omega, ?_⟩
          intro x hx
          simp at hx
          omega
        · simp only; split <;> omega
        · intro h; simp [h]
        · intro r
          have bg4 : bg 4 = true := bg_of (by omega) (by omega)
          have bg7 : bg 7 = true := bg_of (by omega) (by omega)
          by_cases hj : j = leaf
          · subst hj
            simp -implicitDefEqProofs [Nat.add_assoc, forG_cons, u__law_signs_1, t1, i1, t2, hb, t4, q2, q3, hs, fair, D.pl, len1, app1, bg4, bg7]
          · simp -implicitDefEqProofs [Nat.add_assoc, forG_cons, u__law_signs_1, t1, i1, t2, hb, t4, q2, q3, hs, fair, D.pl, len1, app1, hj, bg4, bg7]
    obtain ⟨x, bn1, h1, h2⟩ := one
    obtain ⟨sg, bn', s1, s2, s3⟩ := ih (j + 1) (acc ++ [x]) bn1 (by omega) (by simp; omega)
    refine ⟨x :: sg, bn', ?_, by simp [s2], ?_⟩
    · rw [rngD_cons (by omega), h2, show acc ++ x :: sg = acc ++ [x] ++ sg by simp, ← s1, show j + 1 + (d : Int) = j + ((d : Int) + 1) by omega]
      rfl
    · intro i y hi
      cases i with
      | zero => simp at hi; subst hi; simpa using h1
      | succ i =>
        have := s3 i y (by simpa using hi)
        rw [show j + ((i + 1 : Nat) : Int) = j + 1 + (i : Int) by omega]
        exact this
theorem signs_ok (k : Nat) (bn : Int) (p s : Sto) : ∃ (sg : Sg) (bn' : Int), call prog (k + 2) F__law_signs [.loc p.length] (p ++ bx bn :: s) = .ok (.d sg.d) (p ++ bx bn' :: s) ∧ sg.Dr := by
  obtain ⟨c, b1, t1, c0, c1⟩ := take_ok k bn 5 (by omega) (by omega) p s
  obtain ⟨l, b2, t2, l0, l1⟩ := take_ok k b1 (2 + c) (by omega) (by omega) p s
  obtain ⟨m, hm⟩ : ∃ m : Nat, 2 + c = m := ⟨(2 + c).toNat, by omega⟩
  obtain ⟨sg, bn', s1, s2, s3⟩ := signs_loop k (p.length + (s.length + 1 + 1)) l (.d (.int (2 + c))) (rngD 0 m) p s m 0 [] b2 (by omega) (by simp; omega)
  have ho : okQ m = true := okQ_of (by omega) (by omega)
  refine ⟨sg, bn', ?_, sg_dr sg l (by omega) (by omega) l0 (by omega) fun i x hi => by
    have := s3 i x hi
    rwa [Int.zero_add] at this⟩
  rw [hm] at t2 s1
  rw [at__law_signs]
  simp -implicitDefEqProofs [Nat.add_assoc, ] at s1
  simp -implicitDefEqProofs [Nat.add_assoc, runN_eq, b__law_signs, t1, hm, t2, ho, s1, leave_loc, Sg.d]
end G

set_option maxRecDepth 10000
/-! places in trees, what stands at them -/
namespace TT
theorem goPl_snoc (ks : List Int) : ∀ (pl : List Int) (x : G0) (i : Int), goPl ks x (pl ++ [i]) = (goPl ks x pl).bind fun u => if 0 ≤ i ∧ i < gi ks u.sg then some (u.kid i) else none
  | [], x, i => by simp [goPl]
  | j :: pl, x, i => by
    simp only [List.cons_append, goPl]
    split
    · exact goPl_snoc ks pl _ i
    · rfl
/-- a place, where its tree begins, its tree -/
abbrev En := List Int × Nat × G0
def enD (e : En) : D := .tup [.tup (e.1.map .int), .int e.2.1]
structure EnOk (ks : List Int) (x : G0) (e : En) : Prop where
  sub : x.subs[e.2.1]? = some e.2.2
  go : goPl ks x e.1 = some e.2.2
  len : e.1.length + e.2.2.size ≤ x.size
def msr (l : List En) : Nat := (l.map fun e => e.2.2.size).sum
end TT
namespace G
open TT
theorem end_of_sub (k : Nat) (b : Bk) (hb : b.Ok) (x : G0) (hx : x.Ok b.ks) (hl : x.size ≤ 40) {h : Nat} {u : G0} (hu : x.subs[h]? = some u) (s : Sto) : call prog (k + 2) F_end_of [.d (oBook b), .d (tD x), .d (.int h)] s = .ok (.d (.int ((h + u.size : Nat) : Int))) s := by
  obtain ⟨pre, post, e, q⟩ := T.sub_row (fun e => e.elim) x h u hu
  rw [T.row_nums, T.row_nums] at e
  have hp : ∃ p1 p2 : List Int, x.nums = p1 ++ (u.nums ++ p2) ∧ p1.length = h := by
    have hh : h + u.size + post.length = x.size := by
      have := congrArg List.length e
      simp [T.nums_len] at this
      omega
    have e1 : pre = (x.nums.take h).map .int := by
      rw [List.map_take, e, List.append_assoc, List.take_left' q]
    have e2 : post = (x.nums.drop (h + u.size)).map .int := by
      rw [List.map_drop, e, List.drop_left' (by simp [q, T.nums_len])]
    refine ⟨x.nums.take h, x.nums.drop (h + u.size), ?_, by simp [T.nums_len]; omega⟩
    rw [e1, e2] at e
    have := map_int_inj.mp (show x.nums.map D.int = (x.nums.take h ++ u.nums ++ x.nums.drop (h + u.size)).map D.int by simpa using e)
    rw [List.append_assoc] at this
    exact this
  obtain ⟨p1, p2, e, q⟩ := hp
  have hlen : (p1 ++ (u.nums ++ p2)).length < 1000000 := by
    rw [← e, T.nums_len]; omega
  have := end_of_at k b hb p1 (u.nums ++ p2) hlen s
  rw [endOf_self b.ks u (T.subs_ok x hx u (List.mem_of_getElem? hu))] at this
  rw [← e, q] at this
  unfold tD
  rw [this]
  simp
theorem sub_at (x : G0) {h : Nat} {u : G0} (hu : x.subs[h]? = some u) : atI (x.nums.map D.int) (h : Int) = some (.int u.sg) := by
  have := T.row_subs (fun e => e.elim) x h
  rw [T.row_nums, hu] at this
  have hh : h < x.size := by rw [← T.subs_len]; exact (List.getElem?_eq_some_iff.mp hu).1
  unfold atI ixOf
  rw [if_pos (by omega), if_pos (by simp [T.nums_len]; omega)]
  simp only [Int.toNat_natCast, Option.bind_some]
  rw [this]
  cases u with
  | v e => exact e.elim
  | z s => rfl
  | o s a => rfl
  | t s a b => rfl
theorem pl_while (b : Bk) (hb : b.Ok) (x : G0) (hx : x.Ok b.ks) (hl : x.size ≤ 40) : ∀ (m : Nat) (done todo : List En), msr todo = m → done.length + m ≤ 40 → (∀ e ∈ done ++ todo, EnOk b.ks x e) →
    ∃ F : List En, (∀ e ∈ F, EnOk b.ks x e) ∧ F.length ≤ 40 ∧ (∃ r, F = done ++ todo ++ r) ∧ ∀ (k : Nat) (s : Sto) (f n : Nat), m < f → whlG (cx prog (k + 2)) n (.op true .lt (.cons (.v 3) (.cons (.op true .len (.cons (.v 2) .nil)) .nil))) [4, 5, 6, 7] l_places_in_2 f [some (.d (oBook b)), some (.d (tD x)), some (.loc s.length), some (.d (.int done.length)), none, none, none, none] (s ++ [.lst ((done ++ todo).map enD)]) = .ok (.nx, [some (.d (oBook b)), some (.d (tD x)), some (.loc s.length), some (.d (.int F.length)), none, none, none, none]) (s ++ [.lst (F.map enD)]) := by
  intro m
  induction m using Nat.strongRecOn with
  | ind m ih =>
    intro done todo hm hd hok
    cases todo with
    | nil =>
      refine ⟨done, by simpa using hok, by omega, ⟨[], by simp⟩, fun k s f n hf => ?_⟩
      obtain ⟨f', rfl⟩ : ∃ f', f = f' + 1 := ⟨f - 1, by omega⟩
      rw [whlG_succ]
      simp -implicitDefEqProofs [Nat.add_assoc, ]
    | cons e todo =>
      obtain ⟨pl, st, u⟩ := e
      have ok := hok (pl, st, u) (by simp)
      have ok1 := ok.sub
      have ok2 := ok.go
      have ok3 := ok.len
      simp only at ok1 ok2 ok3
      have uok := T.subs_ok x hx u (List.mem_of_getElem? ok1)
      have us := T.size_pos u
      have a1 := sub_at x ok1
      have hmm : u.size + msr todo = m := by rw [← hm]; simp [msr]
      have a0 : ∀ r, atI ((done ++ (pl, st, u) :: todo).map enD ++ r) (done.length : Int) = some (enD (pl, st, u)) := by
        intro r
        have := atI_mid (done.map enD) (todo.map enD ++ r) (enD (pl, st, u))
        simpa using this
      have a0' := a0 []
      have tl : ∀ t : List En, t.length ≤ msr t := by
        intro t
        induction t with
        | nil => simp [msr]
        | cons e t iht =>
          have := T.size_pos e.2.2
          simp [msr] at iht ⊢
          omega
      have tlt := tl todo
      have sp : sm pl.length = true := sm_of (by omega)
      have s1 : ∀ n, n ≤ 100 → sm (done.length + (todo.length + 1) + n) = true := fun n hn => sm_of (by omega)
      have s0 : sm (done.length + (todo.length + 1)) = true := sm_of (by omega)
      have s1' : sm (done.length + (todo.length + 2)) = true := sm_of (by omega)
      have hlt : (done.length : Int) < done.length + (todo.length + 1) := by omega
      cases u with
      | v e => exact e.elim
      | z sg =>
        obtain ⟨F, f1, f2, ⟨r, f3⟩, f4⟩ := ih (msr todo) (by simp [T.size] at hmm; omega) (done ++ [(pl, st, .z sg)]) todo rfl (by simp [T.size] at hmm ⊢; omega) (by simpa using hok)
        refine ⟨F, f1, f2, ⟨r, by simpa using f3⟩, fun k s f n hf => ?_⟩
        obtain ⟨f', rfl⟩ : ∃ f', f = f' + 1 := ⟨f - 1, by omega⟩
        have q := f4 k s f' n (by simp [T.size] at hmm; omega)
        have ho : okQ 0 = true := okQ_of (by omega) (by omega)
        rw [whlG_succ]
        simp -implicitDefEqProofs [Nat.add_assoc, tD] at q
        simp -implicitDefEqProofs [Nat.add_assoc, enD] at a0'
        simp only [T.sg] at a1
        simp -implicitDefEqProofs [Nat.add_assoc, hlt, u_places_in_2, a0', enD, tD, a1, Book_kids, uok.1.1, uok.1.2, uok.2, rngD00, ho, q]
        try simp -implicitDefEqProofs [Nat.add_assoc, enD] at q
        try simp -implicitDefEqProofs [Nat.add_assoc, q]
      | o sg a =>
        have u1 := T.subs_o ok1
        have k1 : EnOk b.ks x (pl ++ [0], st + 1, a) := ⟨u1, by rw [goPl_snoc, ok2]; simp [T.sg, uok.2.1, T.kid], by simp [T.size] at ok3 ⊢; omega⟩
        obtain ⟨F, f1, f2, ⟨r, f3⟩, f4⟩ := ih (msr (todo ++ [(pl ++ [0], st + 1, a)])) (by simp [T.size, msr] at hmm ⊢; omega) (done ++ [(pl, st, .o sg a)]) (todo ++ [(pl ++ [0], st + 1, a)]) rfl (by simp [T.size, msr] at hmm ⊢; omega) (by
          intro e he
          simp at he
          rcases he with he | rfl | he | rfl
          · exact hok e (by simp [he])
          · exact ok
          · exact hok e (by simp [he])
          · exact k1)
        refine ⟨F, f1, f2, ⟨_, by simpa using f3⟩, fun k s f n hf => ?_⟩
        obtain ⟨f', rfl⟩ : ∃ f', f = f' + 1 := ⟨f - 1, by omega⟩
        have q := f4 k s f' n (by simp [T.size, msr] at hmm ⊢; omega)
        have ho : okQ 1 = true := okQ_of (by omega) (by omega)
        have eo := fun s => end_of_sub k b hb x hx hl u1 s
        rw [whlG_succ]
        simp -implicitDefEqProofs [Nat.add_assoc, tD, enD] at q eo
        simp -implicitDefEqProofs [Nat.add_assoc, enD] at a0'
        simp only [T.sg] at a1
        simp -implicitDefEqProofs [Nat.add_assoc, hlt, u_places_in_2, a0', enD, tD, a1, Book_kids, uok.1.1, uok.1.2, uok.2.1, rngD01, ho, forG_cons, u_places_in_1, sp, s0, s1', eo, q]
      | t sg a c =>
        have u1 := T.subs_t ok1
        have k1 : EnOk b.ks x (pl ++ [0], st + 1, a) := ⟨u1.1, by rw [goPl_snoc, ok2]; simp [T.sg, uok.2.1, T.kid], by simp [T.size] at ok3 ⊢; omega⟩
        have k2 : EnOk b.ks x (pl ++ [1], st + 1 + a.size, c) := ⟨u1.2, by rw [goPl_snoc, ok2]; simp [T.sg, uok.2.1, T.kid], by simp [T.size] at ok3 ⊢; omega⟩
        obtain ⟨F, f1, f2, ⟨r, f3⟩, f4⟩ := ih (msr (todo ++ [(pl ++ [0], st + 1, a), (pl ++ [1], st + 1 + a.size, c)])) (by simp [T.size, msr] at hmm ⊢; omega) (done ++ [(pl, st, .t sg a c)]) (todo ++ [(pl ++ [0], st + 1, a), (pl ++ [1], st + 1 + a.size, c)]) rfl (by simp [T.size, msr] at hmm ⊢; omega) (by
          intro e he
          simp at he
          rcases he with he | rfl | he | rfl | rfl
          · exact hok e (by simp [he])
          · exact ok
          · exact hok e (by simp [he])
          · exact k1
          · exact k2)
        refine ⟨F, f1, f2, ⟨_, by simpa using f3⟩, fun k s f n hf => ?_⟩
        obtain ⟨f', rfl⟩ : ∃ f', f = f' + 1 := ⟨f - 1, by omega⟩
        have q := f4 k s f' n (by simp [T.size, msr] at hmm ⊢; omega)
        have ho : okQ 2 = true := okQ_of (by omega) (by omega)
        have e1 := fun s => end_of_sub k b hb x hx hl u1.1 s
        have e2 := fun s => end_of_sub k b hb x hx hl u1.2 s
        rw [whlG_succ]
        simp -implicitDefEqProofs [Nat.add_assoc, tD, enD] at q e1 e2
        simp -implicitDefEqProofs [Nat.add_assoc, enD] at a0'
        simp only [T.sg] at a1
        simp -implicitDefEqProofs [Nat.add_assoc, hlt, u_places_in_2, a0', enD, tD, a1, Book_kids, uok.1.1, uok.1.2, uok.2.1, rngD02, ho, forG_cons, u_places_in_1, sp, s0, s1', e1, e2, q]
end G

set_option maxRecDepth 10000
namespace TT
theorem kn_ints (n : Nat) (l : List Int) : Ds.kn n (l.map .int) = true := by
  induction l with
  | nil => simp [Ds.kn]
  | cons x l ih => simp [Ds.kn, D.kn, ih]
theorem al_ints (n : Nat) : ∀ a b : List Int, Ds.al n (a.map .int) (b.map .int) = true
  | [], b => by simp [Ds.al]
  | x :: a, [] => by simp [Ds.al]
  | x :: a, y :: b => by simp [Ds.al, D.al, al_ints n a b]
theorem lt_ints : ∀ a b : List Int, (Ds.lt (a.map .int) (b.map .int)).isSome = true
  | [], [] => by simp [Ds.lt]
  | [], y :: b => by simp [Ds.lt]
  | x :: a, [] => by simp [Ds.lt]
  | x :: a, y :: b => by
    simp only [List.map_cons, Ds.lt]
    split
    · exact lt_ints a b
    · simp [D.lt]
def plD (pl : List Int) : D := .tup (pl.map .int)
theorem tups_places (ls : List (List Int)) (h : ls.length ≤ 10000) : tupsOk (plD [] :: ls.map plD) = true ∨ 9999 < ls.length := by
  by_cases h' : 9999 < ls.length
  · exact .inr h'
  refine .inl ?_
  have all : (plD [] :: ls.map plD) = ([] :: ls).map plD := rfl
  unfold tupsOk
  rw [Bool.and_eq_true, Bool.and_eq_true]
  refine ⟨rfl, ?_, ?_⟩
  · rw [all, List.all_eq_true]
    intro d hd
    obtain ⟨a, _, rfl⟩ := List.mem_map.mp hd
    simp only [Bool.and_eq_true]
    refine ⟨⟨rfl, by simp [plD, D.kn, kn_ints]⟩, ?_⟩
    rw [List.all_eq_true]
    intro d hd
    obtain ⟨b, _, rfl⟩ := List.mem_map.mp hd
    simp [plD, D.al, al_ints, D.lt, lt_ints]
  · simp [small]; omega
theorem map_of {α : Type} (f : α → D) : ∀ l : List D, (∀ d ∈ l, ∃ x, d = f x) → ∃ P : List α, l = P.map f
  | [], _ => ⟨[], rfl⟩
  | d :: l, h => by
    obtain ⟨x, hx⟩ := h d (by simp)
    obtain ⟨P, hP⟩ := map_of f l fun e he => h e (by simp [he])
    exact ⟨x :: P, by simp [hx, hP]⟩
theorem plD_inj {a b : List Int} : plD a = plD b ↔ a = b := by
  unfold plD
  constructor
  · intro h
    exact map_int_inj.mp (D.tup.inj h)
  · intro h; rw [h]
end TT
namespace G
open TT
theorem places_in_eq (b : Bk) (hb : b.Ok) (x : G0) (hx : x.Ok b.ks) (hl : x.size ≤ 40) : ∃ F : List En, (∀ e ∈ F, EnOk b.ks x e) ∧ F.length ≤ 40 ∧ (∃ r, F = ([], 0, x) :: r) ∧ ∀ (k : Nat) (s : Sto), call prog (k + 3) F_places_in [.d (oBook b), .d (tD x)] s = .ok (.d (.lst (F.map enD))) s := by
  obtain ⟨F, f1, f2, ⟨r, f3⟩, f4⟩ := pl_while b hb x hx hl x.size [] [([], 0, x)] (by simp [msr]) (by simpa using hl) (by
    intro e he
    simp at he
    subst he
    exact ⟨T.subs_head x, by simp [goPl], by simp⟩)
  refine ⟨F, f1, f2, ⟨r, by simpa using f3⟩, fun k s => ?_⟩
  have q := f4 k s 1000000 (s.length + 1) (by omega)
  rw [at_places_in]
  simp -implicitDefEqProofs [Nat.add_assoc, enD] at q
  simp -implicitDefEqProofs [Nat.add_assoc, runN_eq, b_places_in, q, leave_loc]
theorem start_loop (c : Cxt) (n : Nat) (s : Sto) (w0 w1 : W) (pl : List Int) (g : List D) : ∀ rest : List En, forG c n (.tp [3, 4]) [3, 4] l_start_of_1 (g, none) (rest.map enD) [some w0, some w1, some (.d (plD pl)), none, none] s = match rest.find? (fun e => decide (e.1 = pl)) with
    | some e => .ok (.ret (.d (.int e.2.1)), [some w0, some w1, some (.d (plD pl)), none, none]) s
    | none => .ok (.nx, [some w0, some w1, some (.d (plD pl)), none, none]) s := by
  intro rest
  induction rest with
  | nil => simp
  | cons e rest ih =>
    have hf := fair_tups e.1 pl
    have hi := @plD_inj e.1 pl
    unfold plD at hi
    by_cases h : e.1 = pl
    · subst h
      simp -implicitDefEqProofs [Nat.add_assoc, forG_cons, u_start_of_1, enD, plD, hf]
    · have : ¬ (List.map D.int e.1 = List.map D.int pl) := fun q => h (map_int_inj.mp q)
      simp -implicitDefEqProofs [Nat.add_assoc, plD] at ih
      simp -implicitDefEqProofs [Nat.add_assoc, forG_cons, u_start_of_1, enD, plD, hf, this, ih, h]
theorem at_eq (b : Bk) (hb : b.Ok) (x : G0) (hx : x.Ok b.ks) (hl : x.size ≤ 40) {F : List En} (f1 : ∀ e ∈ F, EnOk b.ks x e) (pin : ∀ (k : Nat) (s : Sto), call prog (k + 3) F_places_in [.d (oBook b), .d (tD x)] s = .ok (.d (.lst (F.map enD))) s) {pl : List Int} (hp : ∃ e ∈ F, e.1 = pl) :
    ∃ u, goPl b.ks x pl = some u ∧ u.size ≤ 40 ∧ ∀ (k : Nat) (s : Sto), call prog (k + 5) F_at [.d (oBook b), .d (tD x), .d (plD pl)] s = .ok (.d (tD u)) s := by
  obtain ⟨e0, h0, h1⟩ := hp
  have hf : ∃ e, F.find? (fun e => decide (e.1 = pl)) = some e := by
    cases q : F.find? (fun e => decide (e.1 = pl)) with
    | some e => exact ⟨e, rfl⟩
    | none =>
      rw [List.find?_eq_none] at q
      exact absurd h1 (by simpa using q e0 h0)
  obtain ⟨e, he⟩ := hf
  have hm := List.mem_of_find?_eq_some he
  have hq : e.1 = pl := by simpa using List.find?_some he
  have ok := f1 e hm
  have o1 := ok.sub
  have o2 := ok.go
  have o3 := ok.len
  refine ⟨e.2.2, by rw [← hq]; exact o2, by omega, fun k s => ?_⟩
  have ck := fun s => check_tree_ok k b hb x hx hl s
  have so : ∀ s, call prog (k + 4) F_start_of [.d (oBook b), .d (tD x), .d (plD pl)] s = .ok (.d (.int e.2.1)) s := by
    intro s
    have q := start_loop (cx prog (k + 3)) s.length s (.d (oBook b)) (.d (tD x)) pl (F.map enD) F
    rw [he] at q
    have pi := fun s => pin k s
    rw [at_start_of]
    simp -implicitDefEqProofs [Nat.add_assoc, ] at q
    simp -implicitDefEqProofs [Nat.add_assoc, runN_eq, b_start_of, pi, q]
  have eo := fun s => end_of_sub (k + 2) b hb x hx hl o1 s
  obtain ⟨pre, post, e1, e2⟩ := T.sub_row (fun e => e.elim) x _ _ o1
  rw [T.row_nums, T.row_nums] at e1
  have ct : cut (x.nums.map D.int) (some (e.2.1 : Int)) (some (((e.2.1 + e.2.2.size : Nat) : Int))) = e.2.2.nums.map D.int := by
    rw [e1, List.append_assoc]
    exact cut_mid _ _ _ _ _ (by omega) (by simp [T.nums_len]; omega)
  rw [at_at]
  simp -implicitDefEqProofs [Nat.add_assoc, tD] at ct eo so ck
  simp -implicitDefEqProofs [Nat.add_assoc, runN_eq, b_at, tD, ck, so, eo, ct]
theorem places_eq (b : Bk) (hb : b.Ok) (x : G0) (hx : x.Ok b.ks) (hl : x.size ≤ 40) : ∃ (F : List En) (P : List (List Int)), (∀ e ∈ F, EnOk b.ks x e) ∧ (∀ (k : Nat) (s : Sto), call prog (k + 3) F_places_in [.d (oBook b), .d (tD x)] s = .ok (.d (.lst (F.map enD))) s) ∧ (∀ pl ∈ P, ∃ e ∈ F, e.1 = pl) ∧ P.length ≤ 40 ∧
    ∀ (k : Nat) (s : Sto), call prog (k + 5) F_places [.d (oBook b), .d (tD x)] s = .ok (.d (.lst (P.map plD))) s := by
  obtain ⟨F, f1, f2, ⟨r, f3⟩, f4⟩ := places_in_eq b hb x hx hl
  obtain ⟨P, hP⟩ := map_of plD (((F.map fun e => e.1).map plD).mergeSort leD) (by
    intro d hd
    have := (List.mergeSort_perm _ _).mem_iff.mp hd
    obtain ⟨p, _, rfl⟩ := List.mem_map.mp this
    exact ⟨p, rfl⟩)
  have hpl : P.length ≤ 40 := by
    have := congrArg List.length hP
    simp at this
    omega
  refine ⟨F, P, f1, f4, fun pl hp => ?_, hpl, fun k s => ?_⟩
  · have : plD pl ∈ (((F.map fun e => e.1).map plD).mergeSort leD) := by rw [hP]; exact List.mem_map.mpr ⟨pl, hp, rfl⟩
    have := (List.mergeSort_perm _ _).mem_iff.mp this
    obtain ⟨p, hp', e⟩ := List.mem_map.mp this
    rw [plD_inj] at e
    subst e
    obtain ⟨e, he, rfl⟩ := List.mem_map.mp hp'
    exact ⟨e, he, rfl⟩
  · have ck := fun s => check_tree_ok k b hb x hx hl s
    have lc := lcG_map1 (c := cx prog (k + 4)) (n := s.length) (tg := .tp [2, 3]) (g := (F.map enD, none)) (ifs := .nil) (elt := .v 2) (e := [some (.d (oBook b)), some (.d (tD x)), none, none]) (s := s) enD (fun e => plD e.1) F (by omega) (fun e he acc r ha => by
      simp -implicitDefEqProofs [Nat.add_assoc, lcG_cons, lcA, enD, plD, ha])
    have ts : tupsOk (F.map fun e => plD e.1) = true := by
      rw [f3]
      have := tups_places (r.map fun e => e.1) (by rw [f3] at f2; simp at f2 ⊢; omega)
      rcases this with h | h
      · simpa [Function.comp_def] using h
      · rw [f3] at f2; simp at f2 h; omega
    have di : dInts (F.map fun e => plD e.1) = none := by rw [f3]; rfl
    have so : ∀ s, opSem .sorted [.d (.lst (F.map fun e => plD e.1))] s = .ok (.fl (P.map plD)) s := by
      intro s
      have : (F.map fun e => plD e.1) = (F.map fun e => e.1).map plD := by simp [Function.comp_def]
      rw [← hP, ← this]
      simp only [opSem, sortedS, lstOf_lst, di, ts, if_true]
    rw [at_places]
    simp -implicitDefEqProofs [Nat.add_assoc, ] at lc
    simp -implicitDefEqProofs [Nat.add_assoc, runN_eq, b_places, ck, f4, lc, finC, so]
end G

set_option maxRecDepth 10000
namespace TT
/-- turned so many times, with no bound -/
def itr (f : G0 → G0) : Nat → G0 → G0
  | 0, x => x
  | n + 1, x => itr f n (f x)
theorem itr_snoc (f : G0 → G0) : ∀ (n : Nat) (x : G0), itr f (n + 1) x = f (itr f n x)
  | 0, x => rfl
  | n + 1, x => by
    show itr f (n + 1) (f x) = f (itr f n (f x))
    exact itr_snoc f n (f x)
theorem agn_itr (f : G0 → G0) : ∀ (n : Nat) (x y : G0), agn f n x = some y → y = itr f n x
  | 0, x, y, h => by simpa [agn, itr] using h.symm
  | n + 1, x, y, h => by
    simp only [agn] at h
    split at h
    · exact agn_itr f n _ y h
    · cases h
theorem agn_le (f : G0 → G0) : ∀ (n : Nat) (x y : G0), x.size ≤ 200 → agn f n x = some y → y.size ≤ 200
  | 0, x, y, hx, h => by simp only [agn, Option.some.injEq] at h; rw [← h]; exact hx
  | n + 1, x, y, hx, h => by
    simp only [agn] at h
    split at h
    · rename_i q; exact agn_le f n _ y q h
    · cases h
theorem agn_add (f : G0 → G0) (m : Nat) : ∀ (n : Nat) (x : G0), agn f (n + m) x = (agn f n x).bind (agn f m)
  | 0, x => by simp [agn]
  | n + 1, x => by
    rw [show n + 1 + m = n + m + 1 by omega]
    simp only [agn]
    split
    · exact agn_add f m n _
    · rfl
theorem agn_ok {tn : Tn} (ht : tn.Ok) (he : tn.bk = tn.gl) : ∀ (n : Nat) (x y : G0), x.Ok tn.bk.ks → agn (fun x => tn.turn x 0) n x = some y → y.Ok tn.bk.ks
  | 0, x, y, hx, h => by simp only [agn, Option.some.injEq] at h; rw [← h]; exact hx
  | n + 1, x, y, hx, h => by
    simp only [agn] at h
    split at h
    · refine agn_ok ht he n _ y ?_ h
      rw [he]
      exact Tn.turn_ok ht hx (by omega) (by have := ht.pos; unfold Tn.n; omega)
    · cases h
theorem idle_turn {b : Bk} : ∀ (x : G0), x.Ok b.ks → (⟨b, b, idleRows b⟩ : Tn).turn x 0 = x := by
  have mr : ∀ sg : Int, 0 ≤ sg → sg < b.ks.length → (⟨b, b, idleRows b⟩ : Tn).mr 0 sg = baseM b.ks sg := by
    intro sg h0 h1
    obtain ⟨n, rfl⟩ : ∃ n : Nat, sg = n := ⟨sg.toNat, by omega⟩
    have : n < b.ks.length := by omega
    simp [Tn.mr, idleRows, gi, List.getD_eq_getElem?_getD, this]
  intro x
  unfold Tn.turn
  induction x with
  | v e => exact e.elim
  | z s =>
    intro hx
    simp [turn, mr s hx.1.1 hx.1.2, baseM, hx.2, T.sub]
  | o s a ih =>
    intro hx
    simp [turn, mr s hx.1.1 hx.1.2, baseM, hx.2.1, T.sub, ih hx.2.2]
  | t s a c iha ihc =>
    intro hx
    simp [turn, mr s hx.1.1 hx.1.2, baseM, hx.2.1, T.sub, iha hx.2.2.1, ihc hx.2.2.2]
/-- the turner Q is the turner t so many times -/
structure Pw (t : Tn) (i : Nat) (Q : Tn) : Prop where
  ok : Q.Ok
  bk : Q.bk = t.bk
  gl : Q.gl = t.gl
  turn : ∀ x : G0, x.Ok t.bk.ks → Q.turn x 0 = itr (fun x => t.turn x 0) i x
theorem max_ints (s : Sto) (ns : List Int) (h : ns ≠ []) (x : W) (hx : lstOf s x = some (ns.map .int)) : ∃ m, opSem .max1 [x] s = .ok (.w (.d (.int m))) s := by
  cases ns with
  | nil => exact absurd rfl h
  | cons n ns =>
    refine ⟨ns.foldl max n, ?_⟩
    have := dInts_map (n :: ns)
    simp only [opSem, maxS, hx, this, int1]
end TT
namespace G
open TT
theorem small_loop (k n : Nat) (s : Sto) {t : Tn} (ht : t.Ok) (c : Nat) (hc : c = t.bk.ks.length) (hc1 : 1 ≤ c) (g : List D) : ∀ (d j : Nat), j + d = t.rows.length →
    (∃ bl, forG (cx prog (k + 4)) n (.nm 2) [2] l__law_is_small_1 (g, none) (rngD (j : Int) (t.rows.length : Int)) [some (.d (oTurner t)), some (.d (.int c)), none, none] s = .ok (.ret (.d (.bl bl)), [some (.d (oTurner t)), some (.d (.int c)), none, none]) s ∧ bl = false) ∨
    forG (cx prog (k + 4)) n (.nm 2) [2] l__law_is_small_1 (g, none) (rngD (j : Int) (t.rows.length : Int)) [some (.d (oTurner t)), some (.d (.int c)), none, none] s = .ok (.nx, [some (.d (oTurner t)), some (.d (.int c)), none, none]) s := by
  intro d
  induction d with
  | zero => intro j hj; right; rw [rngD_nil (by omega)]; simp
  | succ d ih =>
    intro j hj
    have hcs : c ≤ 6 ∧ 1 ≤ c := by
      have h6 := ht.bk.six
      omega
    have lc := lcG_map1 (c := cx prog (k + 4)) (n := s.length) (tg := .nm 3) (g := (rngD 0 c, none)) (ifs := .nil) (elt := .op true .len (.cons (.meth (.v 0) M_row (.cons (.v 2) (.cons (.v 3) .nil))) .nil)) (e := [some (.d (oTurner t)), some (.d (.int c)), some (.d (.int j)), none]) (s := s) (fun (i : Nat) => D.int i) (fun (i : Nat) => D.int (t.mr j i).size) (List.range c) (by simp; omega) (fun i hi acc r ha => by
      simp at hi
      have tr := fun s => Turner_row (k + 3) ht (st := (j : Int)) (sg := (i : Int)) (by omega) (by unfold Tn.n; omega) (by omega) (by omega) s
      have rl := T.row_len hD (t.mr j i)
      have ms := Tn.mr_size ht (st := (j : Int)) (sg := (i : Int)) (by omega) (by unfold Tn.n; omega) (by omega) (by omega)
      have sl : sm (t.mr j i).size = true := sm_of (by omega)
      simp -implicitDefEqProofs [Nat.add_assoc, oTurner] at tr
      simp -implicitDefEqProofs [Nat.add_assoc, lcG_cons, lcA, oTurner, tr, mD, rl, sl, ha])
    rw [← rngD_nat] at lc
    obtain ⟨m, hm⟩ := max_ints s ((List.range c).map fun (i : Nat) => ((t.mr j i).size : Int)) (by simp; omega) (.d (.lst ((List.range c).map fun (i : Nat) => D.int (t.mr j i).size))) (by simp [Function.comp_def])
    have ho : okQ c = true := okQ_of (by omega) (by omega)
    rw [rngD_cons (by omega)]
    by_cases q : 8 < m
    · left
      refine ⟨false, ?_, rfl⟩
      simp -implicitDefEqProofs [Nat.add_assoc, ] at lc
      simp -implicitDefEqProofs [Nat.add_assoc, forG_cons, u__law_is_small_1, ho, lc, finC, hm, q]
    · have := ih (j + 1) (by omega)
      have step : forG (cx prog (k + 4)) n (.nm 2) [2] l__law_is_small_1 (g, none) (.int j :: rngD ((j : Int) + 1) (t.rows.length : Int)) [some (.d (oTurner t)), some (.d (.int c)), none, none] s = forG (cx prog (k + 4)) n (.nm 2) [2] l__law_is_small_1 (g, none) (rngD ((j + 1 : Nat) : Int) (t.rows.length : Int)) [some (.d (oTurner t)), some (.d (.int c)), none, none] s := by
        simp -implicitDefEqProofs [Nat.add_assoc, ] at lc
        simp -implicitDefEqProofs [Nat.add_assoc, forG_cons, u__law_is_small_1, ho, lc, finC, hm, q]
      rw [step]
      exact this
theorem small_eq (k : Nat) (s : Sto) {t : Tn} (ht : t.Ok) (h1 : 1 ≤ t.bk.ks.length) : ∃ bl, call prog (k + 5) F__law_is_small [.d (oTurner t), .d (.int t.bk.ks.length)] s = .ok (.d (.bl bl)) s ∧ (bl = true → t.rows.length ≤ 3) := by
  have st := fun s => Turner_states (k + 3) t s
  have ho : okQ t.n = true := okQ_of (by unfold Tn.n; omega) (by have := ht.most; unfold Tn.n; omega)
  rw [at__law_is_small]
  rcases small_loop k s.length s ht t.bk.ks.length rfl h1 (rngD 0 t.rows.length) t.rows.length 0 (by omega) with ⟨bl, e, h⟩ | e
  · subst h
    refine ⟨false, ?_, by simp⟩
    simp -implicitDefEqProofs [Nat.add_assoc, Tn.n] at st ho e
    simp -implicitDefEqProofs [Nat.add_assoc, runN_eq, b__law_is_small, st, ho, Tn.n, e]
  · refine ⟨decide (t.n ≤ 3), ?_, by unfold Tn.n; simp; omega⟩
    simp -implicitDefEqProofs [Nat.add_assoc, Tn.n] at st ho e
    simp -implicitDefEqProofs [Nat.add_assoc, runN_eq, b__law_is_small, st, ho, Tn.n, e]
    exact decide_eq_decide.mpr Iff.rfl
end G

set_option maxRecDepth 10000
namespace G
open TT
open PySem (Str)
theorem again_some (k : Nat) {tn : Tn} (ht : tn.Ok) (h : tn.bk = tn.gl) {x : G0} (hx : x.Ok tn.bk.ks) (hl : x.size ≤ 40) {t : Nat} (hn : t ≤ 20) {y : G0} (q : agn (fun x => tn.turn x 0) t x = some y) (s : Sto) : call prog (k + 8) F_again [.d (oTurner tn), .d (tD x), .d (.int t)] s = .ok (.d (tD y)) s := by
  rw [again_eq k tn ht h x hx hl t hn s, q]
theorem again_none (k : Nat) {tn : Tn} (ht : tn.Ok) (h : tn.bk = tn.gl) {x : G0} (hx : x.Ok tn.bk.ks) (hl : x.size ≤ 40) {t : Nat} (hn : t ≤ 20) (q : agn (fun x => tn.turn x 0) t x = none) (s : Sto) : call prog (k + 8) F_again [.d (oTurner tn), .d (tD x), .d (.int t)] s = .err X_TooGreat s := by
  rw [again_eq k tn ht h x hx hl t hn s, q]
theorem is_turner (t : Tn) (s : Sto) : opSem (.isCls C_Turner) [.d (oTurner t)] s = .ok (.w (.d (.bl true))) s := (rfl)
theorem powers_while (k : Nat) (s : Sto) {t : Tn} (ht : t.Ok) (he : t.bk = t.gl) (h1 : 1 ≤ t.bk.ks.length) (h3 : t.rows.length ≤ 3) (w1 : W) : ∀ (d : Nat) (R : List Tn) (Q : Tn) (f n : Nat), R.length + 1 + d = 5 → (∀ i q, (R ++ [Q])[i]? = some q → Pw t i q) → d + 1 < f →
    ∃ (Qs : List Tn) (w4 : W), Qs.length ≤ 5 ∧ (∀ i q, Qs[i]? = some q → Pw t i q) ∧ whlG (cx prog (k + 10)) n (.bop true (.cons (.op true .lt (.cons (.op true .len (.cons (.v 3) .nil)) (.cons (.k (.int 5)) .nil))) (.cons (.op true (.isCls C_Turner) (.cons (.v 4) .nil)) (.cons (.call F__law_is_small (.cons (.v 4) (.cons (.v 2) .nil))) .nil)))) [5] l__law_powers_1 f [some (.d (oTurner t)), some w1, some (.d (.int t.bk.ks.length)), some (.loc s.length), some (.d (oTurner Q)), none] (s ++ [.lst ((R ++ [Q]).map oTurner)])
      = .ok (.nx, [some (.d (oTurner t)), some w1, some (.d (.int t.bk.ks.length)), some (.loc s.length), some w4, none]) (s ++ [.lst (Qs.map oTurner)]) := by
  intro d
  induction d with
  | zero =>
    intro R Q f n hR hP hf
    obtain ⟨f, rfl⟩ : ∃ f', f = f' + 1 := ⟨f - 1, by omega⟩
    have sl : sm (R.length + 1) = true := sm_of (by omega)
    have lt : ¬ ((R.length : Int) + 1 < 5) := by omega
    refine ⟨R ++ [Q], .d (oTurner Q), by simp; omega, hP, ?_⟩
    rw [whlG_succ]
    simp -implicitDefEqProofs [Nat.add_assoc, sl, lt]
  | succ d ih =>
    intro R Q f n hR hP hf
    obtain ⟨f, rfl⟩ : ∃ f', f = f' + 1 := ⟨f - 1, by omega⟩
    have sl : sm (R.length + 1) = true := sm_of (by omega)
    have lt : (R.length : Int) + 1 < 5 := by omega
    have pQ := hP R.length Q (by simp)
    have isT := fun s => is_turner Q s
    obtain ⟨bl, sm1, sm2⟩ := small_eq (k + 5) (s ++ [.lst ((R ++ [Q]).map oTurner)]) pQ.ok (by rw [pQ.bk]; exact h1)
    rw [pQ.bk] at sm1
    cases bl with
    | false =>
      refine ⟨R ++ [Q], .d (oTurner Q), by simp; omega, hP, ?_⟩
      rw [whlG_succ]
      simp -implicitDefEqProofs [Nat.add_assoc, ] at sm1
      simp -implicitDefEqProofs [Nat.add_assoc, sl, lt, isT, sm1]
    | true =>
      have hq3 := sm2 rfl
      have hn : Q.rows.length * t.rows.length ≤ 1000 := by
        have := Nat.mul_le_mul hq3 h3
        omega
      have hb : Q.gl = t.bk := by rw [pQ.gl, he]
      rcases behind_eq k (s ++ [.lst ((R ++ [Q]).map oTurner)]) Q t pQ.ok ht hb hn with ⟨P, hI, e⟩ | e
      · have hB := bh_of pQ.ok ht hb hI
        obtain ⟨bok, bsz⟩ := bBoth_ok pQ.ok ht hb hn hI
        have pw : Pw t (R.length + 1) (bBoth Q t P) := ⟨bok, pQ.bk, rfl, fun x hx => by
          have := hB.turn pQ.ok x (by rw [pQ.bk]; exact hx) 0 hI.pos
          rw [hI.zero] at this
          rw [itr_snoc, ← pQ.turn x hx]
          exact this⟩
        obtain ⟨Qs, w4, q1, q2, q3⟩ := ih (R ++ [Q]) (bBoth Q t P) f n (by simp; omega) (by
          intro i q hq
          rw [List.getElem?_append] at hq
          split at hq
          · exact hP i q hq
          · rename_i hi
            rw [List.length_append] at hi hq
            simp only [List.length_cons, List.length_nil] at hi hq
            have : i = R.length + 1 := by
              rcases Nat.lt_or_ge (R.length + 1) i with z | z
              · rw [List.getElem?_eq_none (by simp; omega)] at hq; cases hq
              · omega
            subst this
            simp at hq
            rw [← hq]
            exact pw) (by omega)
        have isB := fun s => is_turner (bBoth Q t P) s
        refine ⟨Qs, w4, q1, q2, ?_⟩
        rw [whlG_succ]
        simp -implicitDefEqProofs [Nat.add_assoc, ] at sm1 e q3
        simp -implicitDefEqProofs [Nat.add_assoc, sl, lt, isT, sm1, u__law_powers_1, e, isB, q3]
      · refine ⟨R ++ [Q], .d (.str "great"), by simp; omega, hP, ?_⟩
        obtain ⟨f, rfl⟩ : ∃ f', f = f' + 1 := ⟨f - 1, by omega⟩
        rw [whlG_succ]
        simp -implicitDefEqProofs [Nat.add_assoc, ] at sm1 e
        simp -implicitDefEqProofs [Nat.add_assoc, sl, lt, isT, sm1, u__law_powers_1, e, whlG_succ]
theorem powers_eq (k : Nat) (s : Sto) {t : Tn} (ht : t.Ok) (he : t.bk = t.gl) (h1 : 1 ≤ t.bk.ks.length) (h3 : t.rows.length ≤ 3) : ∃ Qs : List Tn, Qs.length ≤ 5 ∧ (∀ i q, Qs[i]? = some q → Pw t i q) ∧ call prog (k + 11) F__law_powers [.d (oTurner t), .d (oBook t.bk), .d (.int t.bk.ks.length)] s = .ok (.d (.lst (Qs.map oTurner))) s := by
  have hb := ht.bk
  have p0 : Pw t 0 ⟨t.bk, t.bk, idleRows t.bk⟩ := ⟨(idle_rows hb).tn hb hb, rfl, he, fun x hx => idle_turn x hx⟩
  obtain ⟨Qs, w4, q1, q2, q3⟩ := powers_while k s ht he h1 h3 (.d (oBook t.bk)) 4 [] ⟨t.bk, t.bk, idleRows t.bk⟩ 1000000 (s.length + 1) (by simp) (by
    intro i q hq
    cases i with
    | zero => simp at hq; rw [← hq]; exact p0
    | succ i => simp at hq) (by omega)
  have il := fun s => idle_eq (k + 4) s t.bk hb
  have ot : D.obj C_Turner [A_own_book, A_own_goals, A_own_rows] [oBook t.bk, oBook t.bk, rowsD (idleRows t.bk)] = oTurner ⟨t.bk, t.bk, idleRows t.bk⟩ := rfl
  refine ⟨Qs, q1, q2, ?_⟩
  rw [at__law_powers]
  simp -implicitDefEqProofs [Nat.add_assoc, ] at q3 ot
  simp -implicitDefEqProofs [Nat.add_assoc, runN_eq, b__law_powers, il, mTurner, freeze, unName, ot, q3, leave_loc]
end G

set_option maxRecDepth 10000
namespace G
open TT
open PySem (Str)
theorem fair_tD (a b : G0) : fair (tD a) (tD b) = true := fair_tups a.nums b.nums
theorem pl_tI (l : List Int) : D.pl false 12 (.tup (l.map .int)) = true := by
  rw [show (12 : Nat) = 11 + 1 from rfl, D.pl]
  exact pl_ints 11 l
theorem pl_S (z : Str) : D.pl false 12 (.str z) = true := by simp [D.pl]
theorem pl_I (z : Int) : D.pl false 12 (.int z) = true := by simp [D.pl]
def Qd (Qs : List Tn) : D := .lst (Qs.map oTurner)
theorem powers_loop (k n : Nat) (s : Sto) {t : Tn} (ht : t.Ok) (he : t.bk = t.gl) {x : G0} (hx : x.Ok t.bk.ks) (hl : x.size ≤ 40) (Qs : List Tn) (h5 : Qs.length ≤ 5) (hP : ∀ i q, Qs[i]? = some q → Pw t i q) (w0 w1 : W) (g : List D) : ∀ (d j : Nat), j + d = Qs.length →
    forG (cx prog (k + 10)) n (.nm 5) [5, 8, 9, 10] l__law_tree_right_1 (g, none) (rngD (j : Int) (Qs.length : Int)) [some w0, some w1, some (.d (oTurner t)), some (.d (Qd Qs)), some (.d (tD x)), none, none, none, none, none, none, none, none, none] s = .ok (.nx, [some w0, some w1, some (.d (oTurner t)), some (.d (Qd Qs)), some (.d (tD x)), none, none, none, none, none, none, none, none, none]) s := by
  intro d
  induction d with
  | zero => intro j hj; rw [rngD_nil (by omega)]; simp
  | succ d ih =>
    intro j hj
    have i1 := ih (j + 1) (by omega)
    have hj' : j < Qs.length := by omega
    obtain ⟨Q, hQ⟩ : ∃ Q, Qs[j]? = some Q := ⟨_, List.getElem?_eq_getElem hj'⟩
    have pQ := hP j Q hQ
    have aQ : atI (Qs.map oTurner) (j : Int) = some (oTurner Q) := by
      unfold atI ixOf
      rw [if_pos (by omega), if_pos (by simp; omega)]
      simp [hQ]
    have xQ : x.Ok Q.bk.ks := by rw [pQ.bk]; exact hx
    have tu := turned_pk pQ.ok k s x xQ hl
    have sz := size_turned_eq pQ.ok (k + 3) s x xQ hl
    rw [pQ.turn x hx] at tu sz
    have st : forG (cx prog (k + 10)) n (.nm 5) [5, 8, 9, 10] l__law_tree_right_1 (g, none) (rngD ((j : Int) + 1) (Qs.length : Int)) [some w0, some w1, some (.d (oTurner t)), some (.d (Qd Qs)), some (.d (tD x)), none, none, none, none, none, none, none, none, none] s = .ok (.nx, [some w0, some w1, some (.d (oTurner t)), some (.d (Qd Qs)), some (.d (tD x)), none, none, none, none, none, none, none, none, none]) s := by
      rw [show (j : Int) + 1 = ((j + 1 : Nat) : Int) by omega]; exact i1
    rw [rngD_cons (by omega)]
    cases q : agn (fun x => t.turn x 0) j x with
    | none =>
      have ag := again_none k ht he hx hl (by omega) q s
      by_cases hz : (itr (fun x => t.turn x 0) j x).size ≤ 200
      · simp only [hz, if_true] at tu
        simp -implicitDefEqProofs [Nat.add_assoc, Qd] at st
        simp -implicitDefEqProofs [Nat.add_assoc, forG_cons, u__law_tree_right_1, ag, Qd, aQ, tu, st]
      · simp only [hz, if_false] at tu
        simp -implicitDefEqProofs [Nat.add_assoc, Qd] at st
        simp -implicitDefEqProofs [Nat.add_assoc, forG_cons, u__law_tree_right_1, ag, Qd, aQ, tu, st]
    | some y =>
      have ag := again_some k ht he hx hl (by omega) q s
      have e1 := agn_itr _ _ _ _ q
      have e2 := agn_le _ _ _ _ (by omega) q
      rw [← e1] at tu sz
      simp only [e2, if_true] at tu
      have fz := pl_tI y.nums
      have ny := T.nums_len y
      have sy : sm y.size = true := sm_of (by omega)
      simp -implicitDefEqProofs [Nat.add_assoc, Qd] at st
      simp -implicitDefEqProofs [Nat.add_assoc, tD] at ag tu sz st
      simp -implicitDefEqProofs [Nat.add_assoc, forG_cons, u__law_tree_right_1, tD, ag, Qd, aQ, tu, sz, fz, pl_S, pl_I, ny, sy, fair, objStr, st]
theorem parts_ok (k : Nat) {t : Tn} (ht : t.Ok) (he : t.bk = t.gl) {y z : G0} (hy : y.Ok t.bk.ks) (hl : y.size ≤ 40) (hz : z = t.turn y 0) (hzl : z.size ≤ 40) : ∃ P : List (List Int), P.length ≤ 40 ∧ (∀ s, call prog (k + 10) F_places [.d (oBook t.bk), .d (tD z)] s = .ok (.d (.lst (P.map plD))) s) ∧
    ∀ pl ∈ P, ∃ u : G0, (∀ s, call prog (k + 10) F_part_turned [.d (oTurner t), .d (tD y), .d (plD pl)] s = .ok (.d (tD u)) s) ∧ (∀ s, call prog (k + 10) F_at [.d (oBook t.bk), .d (tD z), .d (plD pl)] s = .ok (.d (tD u)) s) := by
  have zok : z.Ok t.bk.ks := by
    rw [hz, he]
    exact Tn.turn_ok ht hy (by omega) (by have := ht.pos; unfold Tn.n; omega)
  obtain ⟨F, P, f1, f2, f3, f4, f5⟩ := places_eq t.bk ht.bk z zok hzl
  refine ⟨P, f4, fun s => f5 (k + 5) s, fun pl hp => ?_⟩
  obtain ⟨u, u1, u2, u3⟩ := at_eq t.bk ht.bk z zok hzl f1 f2 (f3 pl hp)
  refine ⟨u, fun s => ?_, fun s => u3 (k + 5) s⟩
  have := part_turned_eq ht hy hl (k + 2) s pl
  rw [← hz, ← he, u1] at this
  simp only [show u.size ≤ 200 by omega, if_true] at this
  exact this
end G

set_option maxRecDepth 10000
namespace G
open TT
open PySem (Str)
theorem tree_right_ok (k : Nat) {t : Tn} (ht : t.Ok) (he : t.bk = t.gl) {x : G0} (hx : x.Ok t.bk.ks) (hl : x.size ≤ 40) (Qs : List Tn) (h5 : Qs.length ≤ 5) (hP : ∀ i q, Qs[i]? = some q → Pw t i q) (bn : Int) (p s : Sto) :
    ∃ bn' : Int, call prog (k + 11) F__law_tree_right [.loc p.length, .d (oBook t.bk), .d (oTurner t), .d (Qd Qs), .d (tD x)] (p ++ bx bn :: s) = .ok (.d (.bl true)) (p ++ bx bn' :: s) := by
  obtain ⟨d1, b1, t1, d10, d11⟩ := take_ok (k + 9) bn 6 (by omega) (by omega) p s
  obtain ⟨d2, b2, t2, d20, d21⟩ := take_ok (k + 9) b1 6 (by omega) (by omega) p s
  obtain ⟨m1, rfl⟩ : ∃ m : Nat, d1 = m := ⟨d1.toNat, by omega⟩
  obtain ⟨m2, rfl⟩ : ∃ m : Nat, d2 = m := ⟨d2.toNat, by omega⟩
  refine ⟨b2, ?_⟩
  have lp := powers_loop k (p.length + (s.length + 1)) (p ++ bx bn :: s) ht he hx hl Qs h5 hP (.loc p.length) (.d (oBook t.bk)) (rngD 0 Qs.length) Qs.length 0 (by omega)
  have ho : okQ Qs.length = true := okQ_of (by omega) (by omega)
  have sq : sm Qs.length = true := sm_of (by omega)
  have lq : lstOf (p ++ bx bn :: s) (.d (Qd Qs)) = some (Qs.map oTurner) := rfl
  rw [at__law_tree_right]
  simp -implicitDefEqProofs [Nat.add_assoc, Qd] at lp
  cases q1 : agn (fun x => t.turn x 0) m1 x with
  | none =>
    have a1 := again_none k ht he hx hl (by omega) q1 (p ++ bx b2 :: s)
    simp -implicitDefEqProofs [Nat.add_assoc, runN_eq, b__law_tree_right, Qd, sq, ho, lp, t1, t2, a1, pl_S, fair]
  | some y =>
    have a1 := again_some k ht he hx hl (by omega) q1 (p ++ bx b2 :: s)
    have yok := agn_ok ht he _ _ _ hx q1
    have yle := agn_le _ _ _ _ (by omega) q1
    have ny := T.nums_len y
    have sy : sm y.size = true := sm_of (by omega)
    have fz := pl_tI y.nums
    by_cases c1 : y.size ≤ 40
    · have c1' : ¬ (40 : Int) < y.size := by omega
      have ad := agn_add (fun x => t.turn x 0) m2 m1 x
      rw [q1] at ad
      simp only [Option.bind_some] at ad
      have e12 : ((m1 : Nat) : Int) + m2 = ((m1 + m2 : Nat) : Int) := by omega
      by_cases c2 : (t.turn y 0).size ≤ 200
      · have q3 : agn (fun x => t.turn x 0) 1 y = some (t.turn y 0) := by simp [agn, c2]
        have a3 := again_some k ht he yok c1 (t := 1) (by omega) q3 (p ++ bx b2 :: s)
        have nz := T.nums_len (t.turn y 0)
        have sz : sm (t.turn y 0).size = true := sm_of (by omega)
        have fz2 := pl_tI (t.turn y 0).nums
        by_cases c3 : (t.turn y 0).size ≤ 40
        · have c3' : ¬ (40 : Int) < (t.turn y 0).size := by omega
          obtain ⟨P, p1, p2, p3⟩ := parts_ok k ht he yok c1 rfl c3
          have lc := fun (w6 w7 w8 w11 w12 : Option W) (hv6 : w6 = some (.d (tD y))) (hv8 : w8 = some (.d (tD (t.turn y 0)))) => lcG_map1 (c := cx prog (k + 10)) (n := p.length + (s.length + 1)) (tg := .nm 13) (g := (P.map plD, none)) (ifs := .nil) (elt := .op true .eq (.cons (.call F_part_turned (.cons (.v 2) (.cons (.v 6) (.cons (.v 13) .nil)))) (.cons (.call F_at (.cons (.v 1) (.cons (.v 8) (.cons (.v 13) .nil)))) .nil)))
            (e := [some (.loc p.length), some (.d (oBook t.bk)), some (.d (oTurner t)), some (.d (Qd Qs)), some (.d (tD x)), none, w6, w7, w8, none, none, w11, w12, none]) (s := p ++ bx b2 :: s) plD (fun _ => .bl true) P (by omega) (fun pl hpl acc r ha => by
              obtain ⟨u, u1, u2⟩ := p3 pl hpl
              have v1 := u1
              have v2 := u2
              have fu := pl_tI u.nums
              subst hv6 hv8
              simp -implicitDefEqProofs [Nat.add_assoc, tD] at v1 v2
              simp -implicitDefEqProofs [Nat.add_assoc, lcG_cons, lcA, tD, v1, v2, fu, fair, ha])
          have bl := bls_map (fun _ : List Int => true) P
          have ba : (P.map fun _ : List Int => true).all id = true := by simp
          have pp := p2
          cases q2 : agn (fun x => t.turn x 0) m2 y with
          | none =>
            rw [q2] at ad
            have a2 := again_none k ht he hx hl (by omega) ad (p ++ bx b2 :: s)
            have a4 := again_none k ht he yok c1 (by omega) q2 (p ++ bx b2 :: s)
            have lc' := lc (some (.d (tD y))) (some (.d (.str "great"))) (some (.d (tD (t.turn y 0)))) (some (.d (.int m1))) (some (.d (.int m2))) rfl rfl
            simp -implicitDefEqProofs [Nat.add_assoc, Qd, tD] at lc' a1 a2 a3 a4 pp lp
            simp -implicitDefEqProofs [Nat.add_assoc, runN_eq, b__law_tree_right, tD, Qd, sq, ho, lp, t1, t2, a1, pl_S, pl_I, fair, fz, ny, sy, c1', a2, a4, a3, fz2, nz, sz, c3', pp, lc', finC, bl, ba]
          | some z =>
            rw [q2] at ad
            have a2 := again_some k ht he hx hl (by omega) ad (p ++ bx b2 :: s)
            have a4 := again_some k ht he yok c1 (by omega) q2 (p ++ bx b2 :: s)
            have fz3 := pl_tI z.nums
            have lc' := lc (some (.d (tD y))) (some (.d (tD z))) (some (.d (tD (t.turn y 0)))) (some (.d (.int m1))) (some (.d (.int m2))) rfl rfl
            simp -implicitDefEqProofs [Nat.add_assoc, Qd, tD] at lc' a1 a2 a3 a4 pp lp
            simp -implicitDefEqProofs [Nat.add_assoc, runN_eq, b__law_tree_right, tD, Qd, sq, ho, lp, t1, t2, a1, pl_S, pl_I, fair, fz, ny, sy, c1', a2, a4, a3, fz2, fz3, nz, sz, c3', pp, lc', finC, bl, ba]
        · have c3' : (40 : Int) < (t.turn y 0).size := by omega
          cases q2 : agn (fun x => t.turn x 0) m2 y with
          | none =>
            rw [q2] at ad
            have a2 := again_none k ht he hx hl (by omega) ad (p ++ bx b2 :: s)
            have a4 := again_none k ht he yok c1 (by omega) q2 (p ++ bx b2 :: s)
            simp -implicitDefEqProofs [Nat.add_assoc, tD] at a1 a2 a3 a4 lp
            simp -implicitDefEqProofs [Nat.add_assoc, runN_eq, b__law_tree_right, tD, Qd, sq, ho, lp, t1, t2, a1, pl_S, pl_I, fair, fz, ny, sy, c1', a2, a4, a3, fz2, nz, sz, c3']
          | some z =>
            rw [q2] at ad
            have a2 := again_some k ht he hx hl (by omega) ad (p ++ bx b2 :: s)
            have a4 := again_some k ht he yok c1 (by omega) q2 (p ++ bx b2 :: s)
            have fz3 := pl_tI z.nums
            simp -implicitDefEqProofs [Nat.add_assoc, tD] at a1 a2 a3 a4 lp
            simp -implicitDefEqProofs [Nat.add_assoc, runN_eq, b__law_tree_right, tD, Qd, sq, ho, lp, t1, t2, a1, pl_S, pl_I, fair, fz, ny, sy, c1', a2, a4, a3, fz2, fz3, nz, sz, c3']
      · have q3 : agn (fun x => t.turn x 0) 1 y = none := by simp [agn, c2]
        have a3 := again_none k ht he yok c1 (t := 1) (by omega) q3 (p ++ bx b2 :: s)
        cases q2 : agn (fun x => t.turn x 0) m2 y with
        | none =>
          rw [q2] at ad
          have a2 := again_none k ht he hx hl (by omega) ad (p ++ bx b2 :: s)
          have a4 := again_none k ht he yok c1 (by omega) q2 (p ++ bx b2 :: s)
          simp -implicitDefEqProofs [Nat.add_assoc, tD] at a1 a2 a3 a4 lp
          simp -implicitDefEqProofs [Nat.add_assoc, runN_eq, b__law_tree_right, tD, Qd, sq, ho, lp, t1, t2, a1, pl_S, pl_I, fair, fz, ny, sy, c1', a2, a4, a3]
        | some z =>
          rw [q2] at ad
          have a2 := again_some k ht he hx hl (by omega) ad (p ++ bx b2 :: s)
          have a4 := again_some k ht he yok c1 (by omega) q2 (p ++ bx b2 :: s)
          have fz3 := pl_tI z.nums
          simp -implicitDefEqProofs [Nat.add_assoc, tD] at a1 a2 a3 a4 lp
          simp -implicitDefEqProofs [Nat.add_assoc, runN_eq, b__law_tree_right, tD, Qd, sq, ho, lp, t1, t2, a1, pl_S, pl_I, fair, fz, ny, sy, c1', a2, a4, a3, fz3]
    · have c1' : (40 : Int) < y.size := by omega
      simp -implicitDefEqProofs [Nat.add_assoc, tD] at a1 lp
      simp -implicitDefEqProofs [Nat.add_assoc, runN_eq, b__law_tree_right, tD, Qd, sq, ho, lp, t1, t2, a1, pl_S, pl_I, fair, fz, ny, sy, c1']
end G

set_option maxRecDepth 10000
namespace G
open TT
open PySem (Str)
theorem rows_in (k : Nat) (gl : List Int) (hg : KsOk gl) (most states : Int) (hm0 : 1 ≤ most) (hm : most ≤ 5000) (hs0 : 1 ≤ states) (hs1 : states ≤ 1000) (w1 w3 w10 : W) (g : List D) (p s : Sto) : ∀ (q : List Int) (acc : List Mr) (bn : Int), acc.length + q.length ≤ 10000 → (∀ x ∈ q, 0 ≤ x ∧ x ≤ 2) →
    ∃ (ms : List Mr) (bn' : Int), lcG (cx prog (k + 2)) (.nm 11) .nil (.call F__law_made (.cons (.v 0) (.cons (.v 11) (.cons (.v 2) (.cons (.v 4) (.cons (.v 5) .nil)))))) [some (.loc p.length), some w1, some (.d (.lst (gl.map .int))), some w3, some (.d (.int states)), some (.d (.int most)), none, none, none, none, some w10, none] (g, none) (p.length + (s.length + 1)) (q.map .int) (p ++ bx bn :: (s ++ [.lst (acc.map mD)])) = .ok () (p ++ bx bn' :: (s ++ [.lst ((acc ++ ms).map mD)])) ∧ ms.length = q.length ∧ ∀ (i : Nat) (m : Mr), ms[i]? = some m → MrOk gl states (gi q i) m ∧ (m.size : Int) ≤ most := by
  intro q
  induction q with
  | nil => intro acc bn hl hq; exact ⟨[], bn, by simp -implicitDefEqProofs [Nat.add_assoc, ], rfl, by simp⟩
  | cons x q ih =>
    intro acc bn hl hq
    have hx := hq x (by simp)
    obtain ⟨t, bn1, t1, t2, t3⟩ := made_ok k gl hg most states x hm0 hm hs0 hs1 hx.1 (by omega) bn p (s ++ [.lst (acc.map mD)])
    obtain ⟨ms, bn', m1, m2, m3⟩ := ih (acc ++ [t]) bn1 (by simp at hl ⊢; omega) (fun y hy => hq y (by simp [hy]))
    refine ⟨t :: ms, bn', ?_, by simp [m2], ?_⟩
    · have hs : sm acc.length = true := sm_of (by simp at hl; omega)
      rw [show acc ++ t :: ms = acc ++ [t] ++ ms by simp, ← m1]
      simp -implicitDefEqProofs [Nat.add_assoc, lcG_cons, lcA, t1, hs]
    · intro i m hi
      cases i with
      | zero => simp at hi; subst hi; exact ⟨t2, t3⟩
      | succ i =>
        have := m3 i m (by simpa using hi)
        rw [gi_nat] at this ⊢
        simpa using this
theorem rows_out (k : Nat) (ks : List Int) (hk : KsOk ks) (most states : Int) (hm0 : 1 ≤ most) (hm : most ≤ 5000) (hs0 : 1 ≤ states) (hs1 : states ≤ 1000) (w1 w3 : W) (g : List D) (p s : Sto) : ∀ (d : Nat) (j : Int) (acc : List (List Mr)) (bn : Int), acc.length + d ≤ 10000 →
    ∃ (rs : List (List Mr)) (bn' : Int), lcG (cx prog (k + 2)) (.nm 10) .nil (.lc true [11] (.nm 11) (.seq (.v 2)) .nil (.call F__law_made (.cons (.v 0) (.cons (.v 11) (.cons (.v 2) (.cons (.v 4) (.cons (.v 5) .nil))))))) [some (.loc p.length), some w1, some (.d (.lst (ks.map .int))), some w3, some (.d (.int states)), some (.d (.int most)), none, none, none, none, none, none] (g, none) (p.length + (s.length + 1)) (rngD j (j + d)) (p ++ bx bn :: (s ++ [.lst (acc.map fun r => .lst (r.map mD))])) = .ok () (p ++ bx bn' :: (s ++ [.lst ((acc ++ rs).map fun r => .lst (r.map mD))])) ∧ rs.length = d ∧ ∀ r ∈ rs, r.length = ks.length ∧ ∀ (i : Nat) (m : Mr), r[i]? = some m → MrOk ks states (gi ks i) m ∧ (m.size : Int) ≤ most := by
  intro d
  induction d with
  | zero => intro j acc bn hl; exact ⟨[], bn, by simp -implicitDefEqProofs [Nat.add_assoc, rngD_nil], rfl, by simp⟩
  | succ d ih =>
    intro j acc bn hl
    obtain ⟨ms, bn1, m1, m2, m3⟩ := rows_in k ks hk most states hm0 hm hs0 hs1 w1 w3 (.d (.int j)) (ks.map .int) p (s ++ [.lst (acc.map fun r => .lst (r.map mD))]) ks [] bn (by have := hk.most; simp; omega) hk.two
    obtain ⟨rs, bn', r1, r2, r3⟩ := ih (j + 1) (acc ++ [ms]) bn1 (by simp; omega)
    refine ⟨ms :: rs, bn', ?_, by simp [r2], ?_⟩
    · have hs : sm acc.length = true := sm_of (by omega)
      rw [show acc ++ ms :: rs = acc ++ [ms] ++ rs by simp, ← r1, rngD_cons (by omega), show j + 1 + (d : Int) = j + ((d : Int) + 1) by omega]
      simp -implicitDefEqProofs [Nat.add_assoc, ] at m1
      simp -implicitDefEqProofs [Nat.add_assoc, lcG_cons, lcA, m1, hs, finC]
    · intro r hr
      rcases List.mem_cons.mp hr with rfl | hr
      · exact ⟨m2, m3⟩
      · exact r3 r hr
theorem right_loop (k n : Nat) {t : Tn} (ht : t.Ok) (he : t.bk = t.gl) (hk : KsOk t.bk.ks) (Qs : List Tn) (h5 : Qs.length ≤ 5) (hP : ∀ i q, Qs[i]? = some q → Pw t i q) (w1 w4 w5 w6 : W) (g : List D) (p s : Sto) : ∀ (d : Nat) (j bn : Int),
    ∃ bn' : Int, forG (cx prog (k + 11)) n (.nm 9) [9] l__law_right_1 (g, none) (rngD j (j + d)) [some (.loc p.length), some w1, some (.d (.lst (t.bk.ks.map .int))), some (.d (oBook t.bk)), some w4, some w5, some w6, some (.d (oTurner t)), some (.d (Qd Qs)), none, none, none] (p ++ bx bn :: s)
      = .ok (.nx, [some (.loc p.length), some w1, some (.d (.lst (t.bk.ks.map .int))), some (.d (oBook t.bk)), some w4, some w5, some w6, some (.d (oTurner t)), some (.d (Qd Qs)), none, none, none]) (p ++ bx bn' :: s) := by
  intro d
  induction d with
  | zero => intro j bn; exact ⟨bn, by simp [rngD_nil]⟩
  | succ d ih =>
    intro j bn
    obtain ⟨d1, b1, t1, d10, d11⟩ := take_ok (k + 10) bn 8 (by omega) (by omega) p s
    obtain ⟨x, b2, t2, hx, hl⟩ := tree_ok (k + 9) t.bk.ks hk (1 + d1) (by omega) (by omega) b1 p s
    obtain ⟨b3, t3⟩ := tree_right_ok k ht he hx (by omega) Qs h5 hP b2 p s
    obtain ⟨b4, t4⟩ := ih (j + 1) b3
    refine ⟨b4, ?_⟩
    rw [show j + 1 + (d : Int) = j + ((d : Int) + 1) by omega] at t4
    rw [rngD_cons (by omega), show (((d + 1 : Nat) : Int)) = (d : Int) + 1 by omega, ← t4]
    simp -implicitDefEqProofs [Nat.add_assoc, Qd] at t3 t4
    simp -implicitDefEqProofs [Nat.add_assoc, forG_cons, u__law_right_1, t1, t2, Qd, t3]
theorem right_ok (k : Nat) (bn : Int) (p s : Sto) : ∃ bn' : Int, call prog (k + 101) F__law_right [.loc p.length] (p ++ bx bn :: s) = .ok (.d (.bl true)) (p ++ bx bn' :: s) := by
  obtain ⟨ga, b1, t1, ha⟩ := signs_ok (k + 98) bn p s
  have n1 := fun s => numbers_eq (k + 99) ga (by have := ha.six; omega) s
  obtain ⟨d1, b2, t2, d10, d11⟩ := take_ok (k + 99) b1 2 (by omega) (by omega) p s
  obtain ⟨d2, b3, t3, d20, d21⟩ := take_ok (k + 99) b2 4 (by omega) (by omega) p s
  obtain ⟨m, hm⟩ : ∃ m : Nat, 1 + d1 = m := ⟨(1 + d1).toNat, by omega⟩
  obtain ⟨rs, b4, r1, r2, r3⟩ := rows_out (k + 98) ga.ks ha.ok.ks (1 + d2) m (by omega) (by omega) (by omega) (by omega) (.d ga.d) (.d (oBook ga.bk)) (rngD 0 m) p s m 0 [] b3 (by simp; omega)
  have ok1 : RowsOk ga.bk ga.bk rs := ⟨by omega, by omega, fun r hr => (r3 r hr).1, fun r hr i x hi => by
    have := (r3 r hr).2 i x hi
    rw [r2]
    exact ⟨this.1, by omega⟩⟩
  have o1 : (⟨ga.bk, ga.bk, rs⟩ : Tn).Ok := ok1.tn ha.ok.bk ha.ok.bk
  have hks : ga.bk.ks.length = ga.length := by simp [Sg.bk]
  have hk2 := ha.two
  obtain ⟨Qs, q1, q2, q3⟩ := powers_eq (k + 89) (p ++ bx b4 :: s) (t := ⟨ga.bk, ga.bk, rs⟩) o1 rfl (by simp only; omega) (by have := ok1.three; simpa using this)
  obtain ⟨b5, t5⟩ := right_loop (k + 89) (p.length + (s.length + 1)) (t := ⟨ga.bk, ga.bk, rs⟩) o1 rfl ha.ok.ks Qs q1 q2 (.d ga.d) (.d (.int m)) (.d (.int (1 + d2))) (.d (rowsD rs)) (rngD 0 5) p s 5 0 b4
  refine ⟨b5, ?_⟩
  have nT1 := fun s => new_Turner (k + 95) ga.bk ga.bk ha.ok.bk ha.ok.bk rs ok1 s
  have ho : okQ m = true := okQ_of (by omega) (by omega)
  have ho5 : okQ 5 = true := okQ_of (by omega) (by omega)
  rw [Int.zero_add] at t5 r1
  have sl : sm ga.ks.length = true := sm_of (by have := ha.six; simp [Sg.ks]; omega)
  rw [at__law_right]
  dsimp only at t5 q3
  rw [show ga.bk.ks = ga.ks from rfl] at t5 q3
  rw [show ((5 : Nat) : Int) = 5 from rfl] at t5
  simp -implicitDefEqProofs [Nat.add_assoc, Qd] at t5 q3
  simp -implicitDefEqProofs [Nat.add_assoc, ] at r1
  simp -implicitDefEqProofs [Nat.add_assoc, runN_eq, b__law_right, t1, n1, ha.ok, ha.ok.bk, t2, t3, hm, ho, r1, finC, ok1, nT1, sl]
  simp -implicitDefEqProofs [Nat.add_assoc, rowsD] at q3 nT1 t5
  try simp -implicitDefEqProofs [Nat.add_assoc, nT1, q3, t5, ho5]
end G

set_option maxRecDepth 10000
namespace G
open TT
open PySem (Str)
theorem law_lap (k n : Nat) (ns : List Int) (i : Nat) (lap : Int) (s : Sto) (g : List D) : ∃ s' : Sto, ∀ r, forG (cx prog (k + 102)) n (.nm 2) [2] l_law_1 (g, none) (.int lap :: r) [some (.d (.rol (ns.map .int))), some (.d (.int i)), none] s = forG (cx prog (k + 102)) n (.nm 2) [2] l_law_1 (g, none) r [some (.d (.rol (ns.map .int))), some (.d (.int i)), none] s' := by
  obtain ⟨b0, t0⟩ := box_ok (k + 100) ns i lap s
  obtain ⟨b1, t1⟩ := right_ok (k + 1) b0 s []
  refine ⟨s ++ [bx b1], fun r => ?_⟩
  simp -implicitDefEqProofs [Nat.add_assoc, forG_cons, u_law_1, t0, t1]
theorem law_k (k n : Nat) (ns : List Int) (g : List D) : ∀ (m : Nat) (i : Nat) (s : Sto), ∃ s' : Sto, forG (cx prog (k + 102)) n (.nm 1) [1, 2] l_law_2 (g, none) (rngD i (i + m)) [some (.d (.rol (ns.map .int))), none, none] s = .ok (.nx, [some (.d (.rol (ns.map .int))), none, none]) s' := by
  intro m
  induction m with
  | zero => intro i s; exact ⟨s, by simp [rngD_nil]⟩
  | succ m ih =>
    intro i s
    obtain ⟨s1, e1⟩ := law_lap k s.length ns i 0 s (rngD 0 2)
    obtain ⟨s2, e2⟩ := law_lap k s.length ns i 1 s1 (rngD 0 2)
    obtain ⟨s3, e3⟩ := ih (i + 1) s2
    refine ⟨s3, ?_⟩
    rw [rngD_cons (by omega), ← e3]
    simp only [rngD02] at e1 e2
    rw [show ((i + 1 : Nat) : Int) + m = i + ((m : Int) + 1) by omega]
    have ho2 : okQ 2 = true := okQ_of (by omega) (by omega)
    simp -implicitDefEqProofs [Nat.add_assoc, forG_cons, u_law_2, rngD02, ho2, e1, e2]
theorem law_call (k : Nat) (ns : List Int) : ∃ s, call prog (k + 103) F_law [.d (.rol (ns.map .int))] [] = .ok (.d (.bl true)) s := by
  obtain ⟨m, hm, h3⟩ : ∃ m : Nat, (if ((if (3 : Int) < ns.length then 3 else (ns.length : Int))) > 1 then (if (3 : Int) < ns.length then 3 else (ns.length : Int)) else 1) = m ∧ m ≤ 3 := by
    refine ⟨((if ((if (3 : Int) < ns.length then 3 else (ns.length : Int))) > 1 then (if (3 : Int) < ns.length then 3 else (ns.length : Int)) else 1)).toNat, ?_, ?_⟩
    · split <;> split <;> omega
    · split <;> split <;> omega
  obtain ⟨s', e⟩ := law_k k 0 ns (rngD 0 m) m 0 []
  have ho : okQ m = true := okQ_of (by omega) (by omega)
  refine ⟨[], ?_⟩
  rw [at_law]
  simp at e
  simp -implicitDefEqProofs [Nat.add_assoc, runN_eq, b_law]
  simp only [gt_iff_lt] at hm
  rw [hm, ho]
  simp -implicitDefEqProofs [Nat.add_assoc, e]
theorem law_run0 (ns : List Int) : ∃ s, Phi prog 227 F_law [.d (.rol (ns.map .int))] [] = .ok (.d (.bl true)) s := by
  obtain ⟨s, e⟩ := law_call 124 ns
  rw [call_eq] at e
  exact ⟨s, e⟩
end G

namespace G
theorem law_run : ∀ ns : List Int, ns.length ≤ 63 → (∀ z ∈ ns, PySem.Builtin.Int.intBits z ≤ 1048576) → ∃ s, TT.Phi sig.P 227 li [.d (.rol (ns.map .int))] [] = .ok (.d (.bl true)) s := fun ns _ _ => law_run0 ns
end G
open PySem PySem.W PySem.Calls PyProof.Rows
theorem PySem.Challenge.cw_treehands_k50_whole_again_and_behind_holds : PySem.Challenge.rw_treehands_k50_whole_again_and_behind.Holds := by
  w_on; o_law
  refine HandSHeadRun.head_any (r := OpenLaw.row PySem.Challenge.rw_treehands_k50_whole_again_and_behind) (q := view (OpenLaw.row PySem.Challenge.rw_treehands_k50_whole_again_and_behind).prog [73]) (H := G.hk) (ob := G.ob) (M := 30000) (loose := G.names) (d := HandSHeadRun.topDef (OpenLaw.row PySem.Challenge.rw_treehands_k50_whole_again_and_behind).prog 73) (kwd := []) G.ob_eq
    (by kernel_rfl) (fun s => by kernel_rfl) G.run (by kernel_rfl) (by kernel_rfl) (by kernel_rfl) (by rfl) (by first | assumption | decide +kernel) (by decide +kernel) ⟨rfl, rfl, rfl, rfl, rfl, by decide +kernel⟩ ?hw ?hc
  case hw => w_witness2
  case hc =>
    refine LamX.walk_ofTsE (l := PySem.Challenge.rw_treehands_k50_whole_again_and_behind) (n := 63) (k := 226 + 5) (x := "_law_script") (CX := fun w => L2.CX PySem.Challenge.rw_treehands_k50_whole_again_and_behind.prog w) rfl (by decide) (by kernel_rfl) ⟨rfl, by decide, by decide⟩ ?F ?X
    · intro w mg fa h Y G0 hmg0
      obtain ⟨K, KX, c⟩ := Y
      have hmg : mg ("law" : PySem.Str) = some (.ref fa) := by
        have e : (HandSHeadRun.topDef (OpenLaw.row PySem.Challenge.rw_treehands_k50_whole_again_and_behind).prog 73).name = ("law" : PySem.Str) := by kernel_rfl
        rw [← e]
        exact hmg0
      exact ⟨K, KX, TS.law_at (li := G.li) (k := 226) G.plan KX G0 hmg c G.ex_ok G.nw_ok (G.ask_ok KX G0 c) G.law_run⟩
    · intro w H s e s' h
      obtain ⟨_, _, _, _, _, _, _, _, _, _, _, _, z⟩ := h
      exact z

