import PyProof.Rows.All
import Wide.All
import OpenK.AllK
import Wide.FinOn
import HandS.ForMost
import HandS.Wide
import HandS.Defaults
import HandS.Zip
import HandS.IsInst
import HandS.Deep
import HandS.TupAny
import HandS.Text
import HandS.RaiseMore
import HandS.More
import HandS.Style
import HandS.TupLe
import HandS.Flow
import HandS.SetBool
import HandS.SetKeys
import HandS.DictComp
import KE.GoesMore
import KE.GoesEnumKw
import PyProof.Rows.IntBool
import PySem.Challenge.RW_fednumbers_k08_turns
set_option Elab.async false
set_option linter.all false
set_option maxRecDepth 100000
set_option maxHeartbeats 4000000
/-! GL: a clean deterministic reading of Python bodies over HandS. Part 1: values, heap, results, combinators. -/
namespace GL
open PySem L2

/-- a clean value: data by value, `loc` a mutable object, `fn` a def or a class of the program, `arr` the script -/
inductive D where
  | non | bl (b : Bool) | int (i : Int) | str (x : Str) | tup (xs : List D) | lst (xs : List D) | loc (n : Nat) | fn (s : Nat) | arr (ns : List Int)
  deriving Inhabited

/-- a mutable object -/
inductive O where
  | lst (xs : List D) | ins (c : Nat) (fs : List (Str × D)) | dct (kvs : List (Key × D))
  deriving Inhabited
abbrev Gh := List O

structure Xv where
  cls : Nat
  fs : List (Str × D)

inductive R (α : Type) where
  | ok (a : α) (g : Gh) | exc (x : Xv) (g : Gh) | bad

def R.bind {α β : Type} : R α → (α → Gh → R β) → R β
  | .ok a g, f => f a g
  | .exc x g, _ => .exc x g
  | .bad, _ => .bad
@[simp] theorem R.bind_ok {α β : Type} (a : α) (g : Gh) (f : α → Gh → R β) : (R.ok a g).bind f = f a g := rfl
@[simp] theorem R.bind_bad {α β : Type} (f : α → Gh → R β) : (R.bad : R α).bind f = .bad := rfl
@[simp] theorem R.bind_exc {α β : Type} (x : Xv) (g : Gh) (f : α → Gh → R β) : (R.exc x g : R α).bind f = .exc x g := rfl

/-- a slot of a frame -/
inductive Sl where
  | un | val (d : D) | own (xs : List D)
  deriving Inhabited
abbrev Env' := List Sl
abbrev ME := Env' → Gh → R D
abbrev MT := Env' → Gh → R Bool
abbrev ML := Env' → Gh → R (List D)

/-! ### data: equality, depth -/
mutual
def eqD : D → D → Bool
  | .non, .non => true
  | .bl a, .bl b => a == b
  | .bl a, .int j => (if a then 1 else 0) == j
  | .int i, .bl b => i == (if b then 1 else 0)
  | .int i, .int j => i == j
  | .str x, .str y => x == y
  | .tup xs, .tup ys => eqDs xs ys
  | .lst xs, .lst ys => eqDs xs ys
  | _, _ => false
def eqDs : List D → List D → Bool
  | [], [] => true
  | x :: xs, y :: ys => eqD x y && eqDs xs ys
  | _, _ => false
end
mutual
/-- plain data no deeper than n -/
def okD : D → Nat → Bool
  | .non, _ | .bl _, _ | .int _, _ => true
  | .str x, _ => PyData.strOk x
  | .tup _, 0 | .lst _, 0 => false
  | .tup xs, n + 1 | .lst xs, n + 1 => okDs xs n
  | .loc _, _ | .fn _, _ | .arr _, _ => false
def okDs : List D → Nat → Bool
  | [], _ => true
  | x :: xs, n => okD x n && okDs xs n
end
mutual
def toP : D → PyData
  | .non => .none
  | .bl b => .bool b
  | .int i => .int i
  | .str x => .str x
  | .tup xs => .tuple (toPs xs)
  | .lst xs => .list (toPs xs)
  | .loc _ | .fn _ | .arr _ => .none
def toPs : List D → List PyData
  | [] => []
  | x :: xs => toP x :: toPs xs
end
theorem okDs_all (xs : List D) (n : Nat) : okDs xs n = xs.all (okD · n) := by
  induction xs with
  | nil => rw [okDs]; rfl
  | cons x xs ih => rw [okDs, ih]; rfl
theorem toPs_map (xs : List D) : toPs xs = xs.map toP := by
  induction xs with
  | nil => rw [toPs]; rfl
  | cons x xs ih => rw [toPs, ih]; rfl

/-! ### operations on values -/
def LIM : Nat := 100000
theorem lim_le {n : Nat} (h : n ≤ LIM) : n ≤ sizeLine := Nat.le_trans h (by decide)
theorem lim_lt {n : Nat} (h : n < LIM) : n < sizeLine := Nat.lt_of_lt_of_le h (by decide)
/-- a mutable list is read as it stands -/
def deref (g : Gh) : D → D
  | .loc n => match g[n]? with
    | some (.lst xs) => .lst xs
    | _ => .loc n
  | d => d
def guardR (b : Bool) (d : D) (g : Gh) : R D := if b then .ok d g else .bad
/-- what the sizes of ints must be; told as truths that are not reckoned -/
def MulOk (i j : Int) : Prop := ((-(2 ^ 64) < i ∧ i < 2 ^ 64) ∨ (-(2 ^ 64) < j ∧ j < 2 ^ 64)) ∨ i.natAbs.log2 + j.natAbs.log2 < 1000000
def DivOk (j : Int) : Prop := j ≠ 0 ∧ j.natAbs.log2 < 9000
def PowOk (i j : Int) : Prop := (0 ≤ j ∧ j ≤ 1000000) ∧ i.natAbs < 2 ^ 64
noncomputable def tru (p : Prop) : Bool := @decide p (Classical.propDecidable p)
theorem tru_iff {p : Prop} : tru p = true ↔ p := by unfold tru; exact @decide_eq_true_iff p (Classical.propDecidable p)
noncomputable def mulOk (i j : Int) : Bool := tru (MulOk i j)
noncomputable def divOk (j : Int) : Bool := tru (DivOk j)
noncomputable def powOk (i j : Int) : Bool := tru (PowOk i j)
noncomputable def binopV : Operator → D → D → Gh → R D
  | .Add, .int i, .int j, g => .ok (.int (i + j)) g
  | .Add, .str x, .str y, g => guardR (decide (x.length + y.length ≤ LIM)) (.str (x ++ y)) g
  | .Add, .tup xs, .tup ys, g => guardR (decide (xs.length + ys.length ≤ LIM)) (.tup (xs ++ ys)) g
  | .Add, .lst xs, .lst ys, g => guardR (decide (xs.length + ys.length ≤ LIM)) (.lst (xs ++ ys)) g
  | .Sub, .int i, .int j, g => .ok (.int (i - j)) g
  | .Mult, .int i, .int j, g => guardR (mulOk i j) (.int (i * j)) g
  | .Mult, .lst xs, .int k, g => guardR (decide (0 ≤ k) && decide (k ≤ 1000) && decide (xs.length * k.toNat ≤ LIM)) (.lst (List.replicate k.toNat xs).flatten) g
  | .FloorDiv, .int i, .int j, g => guardR (divOk j) (.int (i.fdiv j)) g
  | .Mod, .int i, .int j, g => guardR (decide (j ≠ 0)) (.int (i.fmod j)) g
  | .Pow, .int i, .int j, g => guardR (powOk i j) (.int (i ^ j.toNat)) g
  | _, _, _, _ => .bad
noncomputable def binop (op : Operator) (x y : D) (g : Gh) : R D := binopV op (deref g x) (deref g y) g
def flatD : D → Bool
  | .non | .bl _ | .int _ | .str _ => true
  | _ => false
def isNon : D → Bool
  | .non => true
  | _ => false
def memD (x : D) (ys : List D) : Bool := ys.any fun z => eqD z x
def inD : D → D → Gh → R D
  | x, .lst ys, g => guardR (okD x 64 && okD (.lst ys) 64) (.bl (memD x ys)) g
  | x, .tup ys, g => guardR (flatD x && ys.all flatD) (.bl (memD x ys)) g
  | .str x, .str z, g => guardR (x.cps.size == 1) (.bl (decide (x.cps.getD 0 0 ∈ z.cps.toList))) g
  | _, _, _ => .bad
def notR : R D → R D
  | .ok (.bl b) g => .ok (.bl (!b)) g
  | .exc x g => .exc x g
  | _ => .bad
def ltD : D → D → Gh → R D
  | .int i, .int j, g => .ok (.bl (decide (i < j))) g
  | .str i, .str j, g => .ok (.bl (decide (i.cps.toList < j.cps.toList))) g
  | _, _, _ => .bad
def strD : D → Bool
  | .str _ => true
  | _ => false
/-- what may be asked for equality: two texts, or plain data -/
def okE (x y : D) : Bool := (strD x && strD y) || (okD x 64 && okD y 64)
def cmpopV : CmpOp → D → D → Gh → R D
  | .Eq, x, y, g => guardR (okE x y) (.bl (eqD x y)) g
  | .NotEq, x, y, g => guardR (okE x y) (.bl (!eqD x y)) g
  | .Lt, x, y, g => ltD x y g
  | .Gt, x, y, g => ltD y x g
  | .GtE, x, y, g => notR (ltD x y g)
  | .LtE, x, y, g => notR (ltD y x g)
  | .In, x, y, g => inD x y g
  | .NotIn, x, y, g => notR (inD x y g)
  | .Is, x, .non, g => .ok (.bl (isNon x)) g
  | .IsNot, x, .non, g => .ok (.bl (!isNon x)) g
  | _, _, _, _ => .bad
def cmpop (op : CmpOp) (x y : D) (g : Gh) : R D := cmpopV op (deref g x) (deref g y) g
def negop : D → Gh → R D
  | .int i, g => .ok (.int (-i)) g
  | _, _ => .bad
/-- the items of xs[lo:hi] -/
def cutD (xs : List D) (lo hi : Option Int) : List D := (xs.drop (HT.sIx xs.length 0 lo)).take (HT.sIx xs.length xs.length hi - HT.sIx xs.length 0 lo)
def subD : D → D → Gh → R D
  | .lst xs, .int i, g => match atI xs i with | some d => .ok d g | none => .bad
  | .tup xs, .int i, g => match atI xs i with | some d => .ok d g | none => .bad
  | .arr ns, .int i, g => match atI ns i with | some n => .ok (.int n) g | none => .bad
  | .str z, .int i, g => if z.length ≤ LIM then (match atI z.cps.toList i with | some c => .ok (.str ⟨#[c]⟩) g | none => .bad) else .bad
  | _, _, _ => .bad
def cutop : D → Option Int → Option Int → Gh → R D
  | .lst xs, lo, hi, g => .ok (.lst (cutD xs lo hi)) g
  | .tup xs, lo, hi, g => .ok (.tup (cutD xs lo hi)) g
  | _, _, _, _ => .bad
def asB {α : Type} (f : Bool → Gh → R α) : D → Gh → R α
  | .bl b, g => f b g
  | _, _ => .bad

/-! ### combinators -/
def eLv (i : Nat) : ME := fun env g => match env[i]? with
  | some (.val d) => .ok d g
  | _ => .bad
def eC (d : D) : ME := fun _ g => .ok d g
noncomputable def eBin (op : Operator) (a b : ME) : ME := fun env g => (a env g).bind fun x g1 => (b env g1).bind fun y g2 => binop op x y g2
def eCmp (op : CmpOp) (a b : ME) : ME := fun env g => (a env g).bind fun x g1 => (b env g1).bind fun y g2 => cmpop op x y g2
/-- a op b op' c -/
def eChain (op op' : CmpOp) (a b c : ME) : ME := fun env g => (a env g).bind fun x g1 => (b env g1).bind fun y g2 => (cmpop op x y g2).bind (asB fun k g3 => if k then (c env g3).bind fun z g4 => cmpop op' y z g4 else .ok (.bl false) g3)
def eNeg (a : ME) : ME := fun env g => (a env g).bind negop
def tV (a : ME) : MT := fun env g => (a env g).bind (asB fun b g1 => .ok b g1)
def tAnd (a b : MT) : MT := fun env g => (a env g).bind fun k g1 => if k then b env g1 else .ok false g1
def tOr (a b : MT) : MT := fun env g => (a env g).bind fun k g1 => if k then .ok true g1 else b env g1
def tNot (a : MT) : MT := fun env g => (a env g).bind fun k g1 => .ok (!k) g1
def eAnd (a b : ME) : ME := fun env g => (a env g).bind (asB fun k g1 => if k then b env g1 else .ok (.bl false) g1)
def eOr (a b : ME) : ME := fun env g => (a env g).bind (asB fun k g1 => if k then .ok (.bl true) g1 else b env g1)
def eNot (a : MT) : ME := fun env g => (a env g).bind fun k g1 => .ok (.bl (!k)) g1
def eIf (c : MT) (a b : ME) : ME := fun env g => (c env g).bind fun k g1 => if k then a env g1 else b env g1
def lNil : ML := fun _ g => .ok [] g
def lCons (a : ME) (r : ML) : ML := fun env g => (a env g).bind fun x g1 => (r env g1).bind fun xs g2 => .ok (x :: xs) g2
def eTup (l : ML) : ME := fun env g => (l env g).bind fun xs g1 => guardR (decide (xs.length ≤ LIM)) (.tup xs) g1
/-- a new list's items -/
def fLst (l : ML) : ML := fun env g => (l env g).bind fun xs g1 => if xs.length ≤ LIM then .ok xs g1 else .bad
def eNew (l : ML) : ME := fun env g => (l env g).bind fun xs g1 => .ok (.lst xs) g1
def eAlloc (l : ML) : ME := fun env g => (l env g).bind fun xs g1 => .ok (.loc g1.length) (g1 ++ [.lst xs])
def eSub (a b : ME) : ME := fun env g => (a env g).bind fun x g1 => (b env g1).bind fun y g2 => subD (deref g2 x) y g2
abbrev MO := Env' → Gh → R (Option Int)
def oNone : MO := fun _ g => .ok none g
def oSome (a : ME) : MO := fun env g => (a env g).bind fun x g1 => match x with | .int i => .ok (some i) g1 | _ => .bad
def eCut (a : ME) (lo hi : MO) : ME := fun env g => (a env g).bind fun x g1 => (lo env g1).bind fun l g2 => (hi env g2).bind fun h g3 => cutop (deref g3 x) l h g3
end GL
/-! GL part 2: how clean values and heaps stand in HandS's abstract heap. -/
namespace GL
open PySem L2

/-- the program's image: the written part, the module's names, the defs and classes by name -/
structure Im where
  K : PySem.W.Frag
  mg : Str → Option Value
  fa : Nat → Option Addr

/-- a world: what never changes (C), where the mutable objects stand (ρ) -/
structure Wd where
  C : Hp
  ρ : List Addr
structure Wd.Le (w w' : Wd) : Prop where
  c : ∀ a o, w.C a = some o → w'.C a = some o
  r : ∀ (n : Nat) (a : Addr), w.ρ[n]? = some a → w'.ρ[n]? = some a
theorem Wd.Le.refl (w : Wd) : w.Le w := ⟨fun _ _ h => h, fun _ _ h => h⟩
theorem Wd.Le.trans {a b c : Wd} (x : a.Le b) (y : b.Le c) : a.Le c := ⟨fun p o h => y.c p o (x.c p o h), fun n p h => y.r n p (x.r n p h)⟩

mutual
inductive DV (M : Im) (w : Wd) : D → V → Prop
  | non : DV M w .non .non
  | bl (b : Bool) : DV M w (.bl b) (.bl b)
  | int (i : Int) : DV M w (.int i) (.int i)
  | str (x : Str) : DV M w (.str x) (.str x)
  | tup {a : Addr} {vs : List V} {xs : List D} : SqT M.K w.C a vs → DVs M w xs vs → DV M w (.tup xs) (.ref a)
  | lst {a : Addr} {vs : List V} {xs : List D} : w.C a = some (.lst vs) → DVs M w xs vs → DV M w (.lst xs) (.ref a)
  | loc {n : Nat} {a : Addr} : w.ρ[n]? = some a → DV M w (.loc n) (.ref a)
  | fn {s : Nat} {a : Addr} : M.fa s = some a → DV M w (.fn s) (.ref a)
  | arr {a : Addr} {ns : List Int} : SqL M.K w.C a (ns.map V.int) → DV M w (.arr ns) (.ref a)
inductive DVs (M : Im) (w : Wd) : List D → List V → Prop
  | nil : DVs M w [] []
  | cons {d : D} {v : V} {ds : List D} {vs : List V} : DV M w d v → DVs M w ds vs → DVs M w (d :: ds) (v :: vs)
end

theorem Rd.mono {C H : Hp} (h : ∀ a o, C a = some o → H a = some o) {a : Addr} {u : HO} (r : Rd C a u) : Rd H a u := by
  rcases r with r | ⟨o, r⟩
  · exact .inl (h _ _ r)
  · exact .inr ⟨o, h _ _ r⟩
theorem SqT.mono {K : PySem.W.Frag} {C H : Hp} (h : ∀ a o, C a = some o → H a = some o) {a : Addr} {xs : List V} (r : SqT K C a xs) : SqT K H a xs := by
  rcases r with r | r
  · exact .inl (Rd.mono h r)
  · exact .inr r
theorem SqL.mono {K : PySem.W.Frag} {C H : Hp} (h : ∀ a o, C a = some o → H a = some o) {a : Addr} {xs : List V} (r : SqL K C a xs) : SqL K H a xs := by
  rcases r with r | r
  · exact .inl (Rd.mono h r)
  · exact .inr r

section
variable {M : Im} {w w' : Wd}
mutual
theorem DV.mono (l : w.Le w') : ∀ (d : D) (v : V), DV M w d v → DV M w' d v
  | .non, _, h => by cases h; exact .non
  | .bl b, _, h => by cases h; exact .bl b
  | .int i, _, h => by cases h; exact .int i
  | .str x, _, h => by cases h; exact .str x
  | .tup xs, _, h => by
    cases h with
    | tup a b => exact .tup (SqT.mono l.c a) (DVs.mono l xs _ b)
  | .lst xs, _, h => by
    cases h with
    | lst a b => exact .lst (l.c _ _ a) (DVs.mono l xs _ b)
  | .loc n, _, h => by
    cases h with
    | loc a => exact .loc (l.r _ _ a)
  | .fn s, _, h => by
    cases h with
    | fn a => exact .fn a
  | .arr ns, _, h => by
    cases h with
    | arr a => exact .arr (SqL.mono l.c a)
theorem DVs.mono (l : w.Le w') : ∀ (ds : List D) (vs : List V), DVs M w ds vs → DVs M w' ds vs
  | [], _, h => by cases h; exact .nil
  | d :: ds, _, h => by
    cases h with
    | cons a b => exact .cons (DV.mono l d _ a) (DVs.mono l ds _ b)
end
theorem DV.up {d : D} {v : V} (h : DV M w d v) (l : w.Le w') : DV M w' d v := DV.mono l d v h
theorem DVs.up {ds : List D} {vs : List V} (h : DVs M w ds vs) (l : w.Le w') : DVs M w' ds vs := DVs.mono l ds vs h
theorem DVs.length : ∀ {ds : List D} {vs : List V}, DVs M w ds vs → ds.length = vs.length
  | _, _, .nil => rfl
  | _, _, .cons _ b => congrArg Nat.succ (DVs.length b)
theorem DVs.append : ∀ {ds es : List D} {vs us : List V}, DVs M w ds vs → DVs M w es us → DVs M w (ds ++ es) (vs ++ us)
  | _, _, _, _, .nil, h => h
  | _, _, _, _, .cons a b, h => .cons a (DVs.append b h)
theorem DVs.get : ∀ {ds : List D} {vs : List V} {i : Nat} {d : D}, DVs M w ds vs → ds[i]? = some d → ∃ v, vs[i]? = some v ∧ DV M w d v
  | _, _, _, _, .nil, h => by simp at h
  | _, _, 0, _, .cons a b, h => by simp at h; subst h; exact ⟨_, rfl, a⟩
  | _, _, i + 1, _, .cons a b, h => by
    obtain ⟨v, h1, h2⟩ := DVs.get (i := i) b (by simpa using h)
    exact ⟨v, by simpa using h1, h2⟩
theorem DVs.getV : ∀ {ds : List D} {vs : List V} {i : Nat} {v : V}, DVs M w ds vs → vs[i]? = some v → ∃ d, ds[i]? = some d ∧ DV M w d v
  | _, _, _, _, .nil, h => by simp at h
  | _, _, 0, _, .cons a b, h => by simp at h; subst h; exact ⟨_, rfl, a⟩
  | _, _, i + 1, _, .cons a b, h => by
    obtain ⟨d, h1, h2⟩ := DVs.getV (i := i) b (by simpa using h)
    exact ⟨d, by simpa using h1, h2⟩
theorem DVs.take : ∀ {ds : List D} {vs : List V} (n : Nat), DVs M w ds vs → DVs M w (ds.take n) (vs.take n)
  | _, _, 0, _ => .nil
  | _, _, _ + 1, .nil => .nil
  | _, _, n + 1, .cons a b => .cons a (DVs.take n b)
theorem DVs.drop : ∀ {ds : List D} {vs : List V} (n : Nat), DVs M w ds vs → DVs M w (ds.drop n) (vs.drop n)
  | _, _, 0, r => r
  | _, _, _ + 1, .nil => .nil
  | _, _, n + 1, .cons _ b => DVs.drop n b
theorem DVs.set {d : D} {v : V} (r : DV M w d v) : ∀ {ds : List D} {vs : List V} (i : Nat), DVs M w ds vs → DVs M w (ds.set i d) (vs.set i v)
  | _, _, _, .nil => .nil
  | _, _, 0, .cons _ b => .cons r b
  | _, _, i + 1, .cons a b => .cons a (DVs.set r i b)
theorem DVs.one {d : D} {v : V} (h : DV M w d v) : DVs M w [d] [v] := .cons h .nil
theorem DVs.ints : ∀ {ns : List Int}, DVs M w (ns.map D.int) (ns.map V.int)
  | [] => .nil
  | n :: ns => .cons (.int n) DVs.ints
end

/-! ### mutable objects -/
inductive FV (M : Im) (w : Wd) : List (Str × D) → List (Str × V) → Prop
  | nil : FV M w [] []
  | cons {f : Str} {d : D} {v : V} {ds : List (Str × D)} {vs : List (Str × V)} : DV M w d v → FV M w ds vs → FV M w ((f, d) :: ds) ((f, v) :: vs)
inductive KVr (M : Im) (w : Wd) : List (Key × D) → List (Key × V) → Prop
  | nil : KVr M w [] []
  | cons {k : Key} {d : D} {v : V} {ds : List (Key × D)} {vs : List (Key × V)} : DV M w d v → KVr M w ds vs → KVr M w ((k, d) :: ds) ((k, v) :: vs)
inductive OR (M : Im) (w : Wd) : O → HO → Prop
  | lst {xs : List D} {vs : List V} : DVs M w xs vs → OR M w (.lst xs) (.lst vs)
  | ins {c : Nat} {Ca dx : Addr} {fs : List (Str × D)} {vs : List (Str × V)} : M.fa c = some Ca → FV M w fs vs → OR M w (.ins c fs) (.ins Ca dx vs)
  | dct {kvs : List (Key × D)} {vs : List (Key × V)} : KVr M w kvs vs → OR M w (.dct kvs) (.dK vs)
theorem KVr.up {M : Im} {w w' : Wd} (l : w.Le w') : ∀ {ds : List (Key × D)} {vs : List (Key × V)}, KVr M w ds vs → KVr M w' ds vs
  | _, _, .nil => .nil
  | _, _, .cons a b => .cons (a.up l) (KVr.up l b)
theorem FV.up {M : Im} {w w' : Wd} (l : w.Le w') : ∀ {ds : List (Str × D)} {vs : List (Str × V)}, FV M w ds vs → FV M w' ds vs
  | _, _, .nil => .nil
  | _, _, .cons a b => .cons (a.up l) (FV.up l b)
theorem OR.up {M : Im} {w w' : Wd} (l : w.Le w') {o : O} {h : HO} (x : OR M w o h) : OR M w' o h := by
  cases x with
  | lst a => exact .lst (a.up l)
  | ins a b => exact .ins a (b.up l)
  | dct a => exact .dct (a.up l)

/-- the clean heap G, and what a frame keeps to itself (fr), stand in H -/
structure RG (M : Im) (w : Wd) (fr : List (Addr × HO)) (G : Gh) (H : Hp) : Prop where
  cold : ∀ a o, w.C a = some o → H a = some o
  len : w.ρ.length = G.length
  obj : ∀ (n : Nat) (o : O) (a : Addr), G[n]? = some o → w.ρ[n]? = some a → ∃ ho, H a = some ho ∧ OR M w o ho
  frm : ∀ p ∈ fr, H p.1 = some p.2
  nd : (w.ρ ++ fr.map (·.1)).Nodup
  hot : ∀ a ∈ w.ρ ++ fr.map (·.1), w.C a = none

theorem RG.there {M : Im} {w : Wd} {fr : List (Addr × HO)} {G : Gh} {H : Hp} (r : RG M w fr G H) {a : Addr} (h : a ∈ w.ρ ++ fr.map (·.1)) : ∃ o, H a = some o := by
  rcases List.mem_append.mp h with h | h
  · obtain ⟨n, hn, e⟩ := List.getElem_of_mem h
    have hg : n < G.length := by rw [← r.len]; exact hn
    obtain ⟨ho, h1, _⟩ := r.obj n G[n] a (by simp [hg]) (by rw [List.getElem?_eq_getElem hn, e])
    exact ⟨ho, h1⟩
  · obtain ⟨p, hp, rfl⟩ := List.mem_map.mp h
    exact ⟨_, r.frm p hp⟩
theorem RG.fresh {M : Im} {w : Wd} {fr : List (Addr × HO)} {G : Gh} {H : Hp} (r : RG M w fr G H) {p : Addr} (h : H p = none) : w.C p = none ∧ p ∉ w.ρ ++ fr.map (·.1) := by
  refine ⟨?_, fun hm => ?_⟩
  · cases e : w.C p with
    | none => rfl
    | some o => rw [r.cold p o e] at h; cases h
  · obtain ⟨o, e⟩ := r.there hm
    rw [e] at h; cases h
/-- a new thing that never changes -/
theorem RG.newCold {M : Im} {w : Wd} {fr : List (Addr × HO)} {G : Gh} {H : Hp} (r : RG M w fr G H) {p : Addr} {o : HO} (h : H p = none) :
    w.Le ⟨upd w.C p o, w.ρ⟩ ∧ RG M ⟨upd w.C p o, w.ρ⟩ fr G (upd H p o) := by
  obtain ⟨h1, h2⟩ := r.fresh h
  have l : w.Le ⟨upd w.C p o, w.ρ⟩ := ⟨fun a u e => by show upd w.C p o a = some u; rw [upd_ne (ne_of_none e h1)]; exact e, fun _ _ e => e⟩
  refine ⟨l, fun a u e => ?_, r.len, fun n ob a e1 e2 => ?_, fun q hq => ?_, r.nd, fun a ha => ?_⟩
  · have e : upd w.C p o a = some u := e
    by_cases ha : a = p
    · subst ha; rw [upd_same] at e ⊢; exact e
    · rw [upd_ne ha] at e ⊢; exact r.cold a u e
  · obtain ⟨ho, q1, q2⟩ := r.obj n ob a e1 e2
    exact ⟨ho, by rw [upd_ne (ne_of_none q1 h)]; exact q1, q2.up l⟩
  · rw [upd_ne (ne_of_none (r.frm q hq) h)]; exact r.frm q hq
  · show upd w.C p o a = none
    rw [upd_ne (fun e => h2 (by subst e; exact ha))]; exact r.hot a ha
/-- a new mutable object -/
theorem RG.newHot {M : Im} {w : Wd} {fr : List (Addr × HO)} {G : Gh} {H : Hp} (r : RG M w fr G H) {p : Addr} {o : O} {ho : HO} (h : H p = none) (q : OR M ⟨w.C, w.ρ ++ [p]⟩ o ho) :
    w.Le ⟨w.C, w.ρ ++ [p]⟩ ∧ RG M ⟨w.C, w.ρ ++ [p]⟩ fr (G ++ [o]) (upd H p ho) := by
  obtain ⟨h1, h2⟩ := r.fresh h
  have l : w.Le ⟨w.C, w.ρ ++ [p]⟩ := ⟨fun a u e => e, fun n a e => by
    have hn : n < w.ρ.length := (List.getElem?_eq_some_iff.mp e).1
    show (w.ρ ++ [p])[n]? = some a
    rw [List.getElem?_append_left hn]; exact e⟩
  refine ⟨l, fun a u e => ?_, by simp [r.len], fun n ob a e1 e2 => ?_, fun q hq => ?_, ?_, fun a ha => ?_⟩
  · rw [upd_ne (ne_of_none (r.cold a u e) h)]; exact r.cold a u e
  · have e2 : (w.ρ ++ [p])[n]? = some a := e2
    by_cases hn : n < G.length
    · rw [List.getElem?_append_left hn] at e1
      rw [List.getElem?_append_left (by rw [r.len]; exact hn)] at e2
      obtain ⟨u, q1, q2⟩ := r.obj n ob a e1 e2
      exact ⟨u, by rw [upd_ne (ne_of_none q1 h)]; exact q1, q2.up l⟩
    · have hn' : n = G.length := by
        have := (List.getElem?_eq_some_iff.mp e1).1
        simp at this; omega
      subst hn'
      rw [List.getElem?_append_right (Nat.le_refl _)] at e1
      rw [List.getElem?_append_right (by rw [r.len]; exact Nat.le_refl _), r.len] at e2
      simp at e1 e2
      subst e1 e2
      exact ⟨ho, upd_same, q⟩
  · rw [upd_ne (ne_of_none (r.frm q hq) h)]; exact r.frm q hq
  · show ((w.ρ ++ [p]) ++ fr.map (·.1)).Nodup
    rw [List.append_assoc, List.singleton_append]
    exact (List.perm_middle.nodup_iff).mpr (List.nodup_cons.mpr ⟨h2, r.nd⟩)
  · have ha : a ∈ (w.ρ ++ [p]) ++ fr.map (·.1) := ha
    rw [List.append_assoc, List.singleton_append, List.perm_middle.mem_iff, List.mem_cons] at ha
    rcases ha with rfl | ha
    · exact h1
    · exact r.hot a ha
/-- a mutable object changes -/
theorem RG.set {M : Im} {w : Wd} {fr : List (Addr × HO)} {G : Gh} {H : Hp} (r : RG M w fr G H) {n : Nat} {a : Addr} {o : O} {ho : HO} (hn : w.ρ[n]? = some a) (q : OR M w o ho) : RG M w fr (G.set n o) (upd H a ho) := by
  have hm : a ∈ w.ρ ++ fr.map (·.1) := List.mem_append_left _ (List.mem_of_getElem? hn)
  have hc := r.hot a hm
  refine ⟨fun b u e => ?_, by simp [r.len], fun m ob b e1 e2 => ?_, fun p hp => ?_, r.nd, r.hot⟩
  · rw [upd_ne (ne_of_none e hc)]; exact r.cold b u e
  · by_cases hmn : m = n
    · subst hmn
      have hl : m < G.length := by have := (List.getElem?_eq_some_iff.mp e1).1; simpa using this
      rw [List.getElem?_set_self hl] at e1
      cases e1
      rw [hn] at e2; cases e2
      exact ⟨ho, upd_same, q⟩
    · rw [List.getElem?_set_ne (Ne.symm hmn)] at e1
      obtain ⟨u, q1, q2⟩ := r.obj m ob b e1 e2
      refine ⟨u, ?_, q2⟩
      rw [upd_ne]; exact q1
      rintro rfl
      obtain ⟨l1, x1⟩ := List.getElem?_eq_some_iff.mp e2
      obtain ⟨l2, x2⟩ := List.getElem?_eq_some_iff.mp hn
      exact hmn ((List.getElem_inj (List.nodup_append.mp r.nd).1).mp (x1.trans x2.symm))
  · have hne : p.1 ≠ a := fun e => by
      have := (List.nodup_append.mp r.nd).2.2 a (List.mem_of_getElem? hn) p.1 (List.mem_map.mpr ⟨p, hp, rfl⟩)
      exact this e.symm
    rw [upd_ne hne]; exact r.frm p hp
/-- a frame's own object changes -/
theorem RG.setFr {M : Im} {w : Wd} {f1 f2 : List (Addr × HO)} {a : Addr} {o o' : HO} {G : Gh} {H : Hp} (r : RG M w (f1 ++ (a, o) :: f2) G H) : RG M w (f1 ++ (a, o') :: f2) G (upd H a o') := by
  have em : ∀ x : HO, (f1 ++ (a, x) :: f2).map (·.1) = f1.map (·.1) ++ a :: f2.map (·.1) := fun x => by simp
  have hm : a ∈ w.ρ ++ (f1 ++ (a, o) :: f2).map (·.1) := by simp
  have hc := r.hot a hm
  have nd := r.nd
  rw [em] at nd
  have na := (List.nodup_append.mp nd).2.2
  have nf := (List.nodup_append.mp nd).2.1
  have nfm : a ∉ f1.map (·.1) ++ f2.map (·.1) := by
    have := ((List.perm_middle (a := a) (l₁ := f1.map Prod.fst) (l₂ := f2.map Prod.fst)).nodup_iff).mp nf
    exact (List.nodup_cons.mp this).1
  refine ⟨fun b u e => ?_, r.len, fun m ob b e1 e2 => ?_, fun p hp => ?_, by rw [em]; exact nd, fun b hb => r.hot b (by rw [em] at hb ⊢; exact hb)⟩
  · rw [upd_ne (ne_of_none e hc)]; exact r.cold b u e
  · obtain ⟨u, q1, q2⟩ := r.obj m ob b e1 e2
    refine ⟨u, ?_, q2⟩
    rw [upd_ne]; exact q1
    exact na b (List.mem_of_getElem? e2) a (by simp)
  · rcases List.mem_append.mp hp with hp | hp
    · have hne : p.1 ≠ a := fun e => nfm (List.mem_append_left _ (List.mem_map.mpr ⟨p, hp, e⟩))
      rw [upd_ne hne]; exact r.frm p (List.mem_append_left _ hp)
    · rcases List.mem_cons.mp hp with rfl | hp
      · exact upd_same
      · have hne : p.1 ≠ a := fun e => nfm (List.mem_append_right _ (List.mem_map.mpr ⟨p, hp, e⟩))
        rw [upd_ne hne]; exact r.frm p (List.mem_append_right _ (List.mem_cons_of_mem _ hp))
/-- fewer things kept -/
theorem RG.less {M : Im} {w : Wd} {f f' : List (Addr × HO)} {G : Gh} {H : Hp} (r : RG M w f G H) (h : f'.Sublist f) : RG M w f' G H := by
  have hs : (w.ρ ++ f'.map (·.1)).Sublist (w.ρ ++ f.map (·.1)) := (List.Sublist.refl _).append (h.map _)
  exact ⟨r.cold, r.len, r.obj, fun p hp => r.frm p (h.subset hp), r.nd.sublist hs, fun a ha => r.hot a (hs.subset ha)⟩
theorem RG.perm {M : Im} {w : Wd} {f f' : List (Addr × HO)} {G : Gh} {H : Hp} (r : RG M w f G H) (h : f.Perm f') : RG M w f' G H := by
  have hs : (w.ρ ++ f.map (·.1)).Perm (w.ρ ++ f'.map (·.1)) := (h.map _).append_left _
  exact ⟨r.cold, r.len, r.obj, fun p hp => r.frm p (h.mem_iff.mpr hp), hs.nodup_iff.mp r.nd, fun a ha => r.hot a (hs.mem_iff.mpr ha)⟩
/-- a new thing that the frame keeps to itself -/
theorem RG.newFr {M : Im} {w : Wd} {fr : List (Addr × HO)} {G : Gh} {H : Hp} (r : RG M w fr G H) {p : Addr} {o : HO} (h : H p = none) : RG M w ((p, o) :: fr) G (upd H p o) := by
  obtain ⟨h1, h2⟩ := r.fresh h
  refine ⟨fun a u e => by rw [upd_ne (ne_of_none (r.cold a u e) h)]; exact r.cold a u e, r.len, fun m ob b e1 e2 => ?_, fun q hq => ?_, ?_, fun a ha => ?_⟩
  · obtain ⟨u, q1, q2⟩ := r.obj m ob b e1 e2
    exact ⟨u, by rw [upd_ne (ne_of_none q1 h)]; exact q1, q2⟩
  · rcases List.mem_cons.mp hq with rfl | hq
    · exact upd_same
    · rw [upd_ne (ne_of_none (r.frm q hq) h)]; exact r.frm q hq
  · show (w.ρ ++ p :: fr.map (·.1)).Nodup
    exact (List.perm_middle.nodup_iff).mpr (List.nodup_cons.mpr ⟨h2, r.nd⟩)
  · have ha : a ∈ w.ρ ++ p :: fr.map (·.1) := ha
    rw [List.perm_middle.mem_iff, List.mem_cons] at ha
    rcases ha with rfl | ha
    · exact h1
    · exact r.hot a ha
/-- what the frame kept to itself never changes from now on -/
theorem RG.freeze {M : Im} {w : Wd} {a : Addr} {o : HO} {fr : List (Addr × HO)} {G : Gh} {H : Hp} (r : RG M w ((a, o) :: fr) G H) : w.Le ⟨upd w.C a o, w.ρ⟩ ∧ RG M ⟨upd w.C a o, w.ρ⟩ fr G H := by
  have hc : w.C a = none := r.hot a (by simp)
  have l : w.Le ⟨upd w.C a o, w.ρ⟩ := ⟨fun b u e => by show upd w.C a o b = some u; rw [upd_ne (ne_of_none e hc)]; exact e, fun _ _ e => e⟩
  have nd : (w.ρ ++ a :: fr.map (·.1)).Nodup := r.nd
  have nd' := List.nodup_cons.mp ((List.perm_middle.nodup_iff).mp nd)
  refine ⟨l, fun b u e => ?_, r.len, fun n ob b e1 e2 => ?_, fun p hp => r.frm p (List.mem_cons_of_mem _ hp), nd'.2, fun b hb => ?_⟩
  · have e : upd w.C a o b = some u := e
    by_cases hb : b = a
    · subst hb; rw [upd_same] at e; cases e; exact r.frm (b, o) List.mem_cons_self
    · rw [upd_ne hb] at e; exact r.cold b u e
  · obtain ⟨u, q1, q2⟩ := r.obj n ob b e1 e2
    exact ⟨u, q1, q2.up l⟩
  · show upd w.C a o b = none
    rw [upd_ne (fun e => nd'.1 (by subst e; exact hb))]
    exact r.hot b (by
      show b ∈ w.ρ ++ a :: fr.map (·.1)
      exact (List.perm_middle.mem_iff).mpr (List.mem_cons_of_mem _ hb))

/-! ### slots -/
inductive SlR (M : Im) (w : Wd) : List (Addr × HO) → Env' → L2.St → Prop
  | nil : SlR M w [] [] []
  | un {os : List (Addr × HO)} {env : Env'} {σ : L2.St} {o : Option V} : SlR M w os env σ → SlR M w os (.un :: env) (o :: σ)
  | val {os : List (Addr × HO)} {env : Env'} {σ : L2.St} {d : D} {v : V} : DV M w d v → SlR M w os env σ → SlR M w os (.val d :: env) (some v :: σ)
  | own {os : List (Addr × HO)} {env : Env'} {σ : L2.St} {xs : List D} {vs : List V} {a : Addr} : DVs M w xs vs → SlR M w os env σ → SlR M w ((a, .lst vs) :: os) (.own xs :: env) (some (.ref a) :: σ)
section
variable {M : Im} {w w' : Wd}
theorem SlR.up (l : w.Le w') : ∀ {os : List (Addr × HO)} {env : Env'} {σ : L2.St}, SlR M w os env σ → SlR M w' os env σ
  | _, _, _, .nil => .nil
  | _, _, _, .un b => .un (SlR.up l b)
  | _, _, _, .val a b => .val (a.up l) (SlR.up l b)
  | _, _, _, .own a b => .own (a.up l) (SlR.up l b)
theorem SlR.length : ∀ {os : List (Addr × HO)} {env : Env'} {σ : L2.St}, SlR M w os env σ → env.length = σ.length
  | _, _, _, .nil => rfl
  | _, _, _, .un b => congrArg Nat.succ (SlR.length b)
  | _, _, _, .val a b => congrArg Nat.succ (SlR.length b)
  | _, _, _, .own a b => congrArg Nat.succ (SlR.length b)
theorem SlR.get : ∀ {os : List (Addr × HO)} {env : Env'} {σ : L2.St} {i : Nat} {d : D}, SlR M w os env σ → env[i]? = some (.val d) → ∃ v, σ[i]? = some (some v) ∧ DV M w d v
  | _, _, _, _, _, .nil, h => by simp at h
  | _, _, _, 0, _, .un b, h => by simp at h
  | _, _, _, 0, _, .val a b, h => by simp at h; subst h; exact ⟨_, rfl, a⟩
  | _, _, _, 0, _, .own a b, h => by simp at h
  | _, _, _, i + 1, _, .un b, h => by simpa using SlR.get (i := i) b (by simpa using h)
  | _, _, _, i + 1, _, .val a b, h => by simpa using SlR.get (i := i) b (by simpa using h)
  | _, _, _, i + 1, _, .own a b, h => by simpa using SlR.get (i := i) b (by simpa using h)
/-- the slot i becomes a value -/
theorem SlR.set {d : D} {v : V} (r : DV M w d v) : ∀ {os : List (Addr × HO)} {env : Env'} {σ : L2.St} (i : Nat), SlR M w os env σ → ∃ os', os'.Sublist os ∧ SlR M w os' (env.set i (.val d)) (σ.set i (some v))
  | _, _, _, _, .nil => ⟨[], .slnil, .nil⟩
  | _, _, _, 0, .un b => ⟨_, .refl _, .val r b⟩
  | _, _, _, 0, .val _ b => ⟨_, .refl _, .val r b⟩
  | _, _, _, 0, .own _ b => ⟨_, List.sublist_cons_self _ _, .val r b⟩
  | _, _, _, i + 1, .un b => let ⟨os', h1, h2⟩ := SlR.set r i b; ⟨os', h1, .un h2⟩
  | _, _, _, i + 1, .val a b => let ⟨os', h1, h2⟩ := SlR.set r i b; ⟨os', h1, .val a h2⟩
  | _, _, _, i + 1, .own a b => let ⟨os', h1, h2⟩ := SlR.set r i b; ⟨_, h1.cons_cons _, .own a h2⟩
/-- the slot i is forgotten -/
theorem SlR.wipe1 {o : Option V} : ∀ {os : List (Addr × HO)} {env : Env'} {σ : L2.St} (i : Nat), SlR M w os env σ → ∃ os', os'.Sublist os ∧ SlR M w os' (env.set i .un) (σ.set i o)
  | _, _, _, _, .nil => ⟨[], .slnil, .nil⟩
  | _, _, _, 0, .un b => ⟨_, .refl _, .un b⟩
  | _, _, _, 0, .val _ b => ⟨_, .refl _, .un b⟩
  | _, _, _, 0, .own _ b => ⟨_, List.sublist_cons_self _ _, .un b⟩
  | _, _, _, i + 1, .un b => let ⟨os', h1, h2⟩ := SlR.wipe1 i b; ⟨os', h1, .un h2⟩
  | _, _, _, i + 1, .val a b => let ⟨os', h1, h2⟩ := SlR.wipe1 i b; ⟨os', h1, .val a h2⟩
  | _, _, _, i + 1, .own a b => let ⟨os', h1, h2⟩ := SlR.wipe1 i b; ⟨_, h1.cons_cons _, .own a h2⟩
/-- the slot i becomes a list of the frame's own, at a -/
theorem SlR.setOwn {xs : List D} {vs : List V} {a : Addr} (r : DVs M w xs vs) : ∀ {os : List (Addr × HO)} {env : Env'} {σ : L2.St} (i : Nat), i < env.length → SlR M w os env σ →
    ∃ os' os'', os'.Sublist os ∧ ((a, HO.lst vs) :: os').Perm os'' ∧ SlR M w os'' (env.set i (.own xs)) (σ.set i (some (.ref a)))
  | _, _, _, _, hi, .nil => by simp at hi
  | _, _, _, 0, _, .un b => ⟨_, _, .refl _, .refl _, .own r b⟩
  | _, _, _, 0, _, .val _ b => ⟨_, _, .refl _, .refl _, .own r b⟩
  | _, _, _, 0, _, .own _ b => ⟨_, _, List.sublist_cons_self _ _, .refl _, .own r b⟩
  | _, _, _, i + 1, hi, .un b => let ⟨o1, o2, h1, h2, h3⟩ := SlR.setOwn r i (by simpa using hi) b; ⟨o1, o2, h1, h2, .un h3⟩
  | _, _, _, i + 1, hi, .val a b => let ⟨o1, o2, h1, h2, h3⟩ := SlR.setOwn r i (by simpa using hi) b; ⟨o1, o2, h1, h2, .val a h3⟩
  | _, _, _, i + 1, hi, .own a b => let ⟨o1, o2, h1, h2, h3⟩ := SlR.setOwn r i (by simpa using hi) b; ⟨_ :: o1, _ :: o2, h1.cons_cons _, (List.Perm.swap ..).trans (h2.cons _), .own a h3⟩
/-- the own list in slot i: where it stands, and that it may change -/
theorem SlR.getOwn : ∀ {os : List (Addr × HO)} {env : Env'} {σ : L2.St} {i : Nat} {xs : List D}, SlR M w os env σ → env[i]? = some (.own xs) →
    ∃ a vs f1 f2, os = f1 ++ (a, .lst vs) :: f2 ∧ σ[i]? = some (some (.ref a)) ∧ DVs M w xs vs ∧ (∀ ys us, DVs M w ys us → SlR M w (f1 ++ (a, .lst us) :: f2) (env.set i (.own ys)) σ) ∧
      (∀ w' d, w.Le w' → DV M w' d (.ref a) → SlR M w' (f1 ++ f2) (env.set i (.val d)) σ)
  | _, _, _, _, _, .nil, h => by simp at h
  | _, _, _, 0, _, .un b, h => by simp at h
  | _, _, _, 0, _, .val a b, h => by simp at h
  | _, _, _, 0, _, .own a b, h => by
    simp at h; subst h
    exact ⟨_, _, [], _, rfl, rfl, a, fun ys us r => .own r b, fun w' d l r => .val r (b.up l)⟩
  | _, _, _, i + 1, _, .un b, h => by
    obtain ⟨a, vs, f1, f2, e, h1, h2, h3, h4⟩ := SlR.getOwn (i := i) b (by simpa using h)
    exact ⟨a, vs, f1, f2, e, by simpa using h1, h2, fun ys us r => .un (h3 ys us r), fun w' d l r => .un (h4 w' d l r)⟩
  | _, _, _, i + 1, _, .val c b, h => by
    obtain ⟨a, vs, f1, f2, e, h1, h2, h3, h4⟩ := SlR.getOwn (i := i) b (by simpa using h)
    exact ⟨a, vs, f1, f2, e, by simpa using h1, h2, fun ys us r => .val c (h3 ys us r), fun w' d l r => .val (c.up l) (h4 w' d l r)⟩
  | _, _, _, i + 1, _, .own c b, h => by
    obtain ⟨a, vs, f1, f2, e, h1, h2, h3, h4⟩ := SlR.getOwn (i := i) b (by simpa using h)
    exact ⟨a, vs, _ :: f1, f2, by rw [e]; rfl, by simpa using h1, h2, fun ys us r => .own c (h3 ys us r), fun w' d l r => .own (c.up l) (h4 w' d l r)⟩
end

/-- the whole state of a frame -/
def RS (M : Im) (w : Wd) (fr : List (Addr × HO)) (env : Env') (G : Gh) (σ : L2.St) (H : Hp) : Prop := ∃ os, RG M w (os ++ fr) G H ∧ SlR M w os env σ
section
variable {M : Im} {w w' : Wd} {fr : List (Addr × HO)} {env : Env'} {G G' : Gh} {σ : L2.St} {H H' : Hp}
theorem RS.cold (r : RS M w fr env G σ H) : ∀ a o, w.C a = some o → H a = some o := let ⟨_, h, _⟩ := r; h.cold
theorem RS.get {i : Nat} {d : D} (r : RS M w fr env G σ H) (h : env[i]? = some (.val d)) : ∃ v, σ[i]? = some (some v) ∧ DV M w d v := let ⟨_, _, s⟩ := r; s.get h
theorem RS.newCold {p : Addr} {o : HO} (r : RS M w fr env G σ H) (h : H p = none) : w.Le ⟨upd w.C p o, w.ρ⟩ ∧ RS M ⟨upd w.C p o, w.ρ⟩ fr env G σ (upd H p o) := by
  obtain ⟨os, g, s⟩ := r
  obtain ⟨l, g'⟩ := g.newCold (o := o) h
  exact ⟨l, os, g', s.up l⟩
theorem RS.newHot {p : Addr} {o : O} {ho : HO} (r : RS M w fr env G σ H) (h : H p = none) (q : OR M ⟨w.C, w.ρ ++ [p]⟩ o ho) : w.Le ⟨w.C, w.ρ ++ [p]⟩ ∧ RS M ⟨w.C, w.ρ ++ [p]⟩ fr env (G ++ [o]) σ (upd H p ho) := by
  obtain ⟨os, g, s⟩ := r
  obtain ⟨l, g'⟩ := g.newHot h q
  exact ⟨l, os, g', s.up l⟩
theorem RS.obj {n : Nat} {o : O} (r : RS M w fr env G σ H) (h : G[n]? = some o) : ∃ a ho, w.ρ[n]? = some a ∧ H a = some ho ∧ OR M w o ho := by
  obtain ⟨os, g, s⟩ := r
  have hn : n < w.ρ.length := by rw [g.len]; exact (List.getElem?_eq_some_iff.mp h).1
  obtain ⟨ho, h1, h2⟩ := g.obj n o _ h (List.getElem?_eq_getElem hn)
  exact ⟨_, ho, List.getElem?_eq_getElem hn, h1, h2⟩
theorem RS.setObj {n : Nat} {a : Addr} {o : O} {ho : HO} (r : RS M w fr env G σ H) (hn : w.ρ[n]? = some a) (q : OR M w o ho) : RS M w fr env (G.set n o) σ (upd H a ho) := by
  obtain ⟨os, g, s⟩ := r
  exact ⟨os, g.set hn q, s⟩
theorem RS.setVal {d : D} {v : V} (i : Nat) (r : RS M w fr env G σ H) (q : DV M w d v) : RS M w fr (env.set i (.val d)) G (σ.set i (some v)) H := by
  obtain ⟨os, g, s⟩ := r
  obtain ⟨os', h1, h2⟩ := s.set q i
  exact ⟨os', g.less (h1.append (.refl _)), h2⟩
theorem RS.len (r : RS M w fr env G σ H) : env.length = σ.length := let ⟨_, _, s⟩ := r; s.length
end
end GL
/-! GL part 3: judgements; names, constants, operators, comparisons, tests, displays, subscripts. -/
namespace GL
open PySem L2

/-- a context in which clean readings are told -/
structure GX (M : Im) (k : Nat) (X : Cx) : Prop where
  K : X.K = M.K
  mg : X.mg = M.mg
  calm : X.calm = true
  nd : X.N.Nodup
  room : Room k X.A
  gd : X.A.guards = some []
theorem GX.u64 {M : Im} {k : Nat} {X : Cx} (g : GX M k X) : X.A.units + 64 < cLine := g.room.units
theorem GX.u65 {M : Im} {k : Nat} {X : Cx} (g : GX M k X) : X.A.units + 65 < cLine := by have := g.room.un; omega

/-- what is wanted of an exception -/
abbrev XW := Xv → Wd → Gh → Hp → Prop
def Post {α : Type} (M : Im) (W : XW) (fr : List (Addr × HO)) (env : Env') (σ : L2.St) (w : Wd) (P : α → Wd → Gh → Hp → Prop) : R α → Prop
  | .ok a G' => ∀ w' H', w.Le w' → RS M w' fr env G' σ H' → P a w' G' H'
  | .exc x G' => ∀ w' H', w.Le w' → RG M w' fr G' H' → W x w' G' H'
  | .bad => False
section
variable {M : Im} {W : XW} {fr : List (Addr × HO)} {env : Env'} {σ : L2.St} {w w1 : Wd}
theorem Post.up {α : Type} {P : α → Wd → Gh → Hp → Prop} {r : R α} (h : Post M W fr env σ w P r) (l : w.Le w1) : Post M W fr env σ w1 P r := by
  cases r with
  | ok a G => exact fun w' H' l' r' => h w' H' (l.trans l') r'
  | exc x G => exact fun w' H' l' r' => h w' H' (l.trans l') r'
  | bad => exact h
theorem Post.bind {α β : Type} {P : β → Wd → Gh → Hp → Prop} {r : R α} {f : α → Gh → R β} (h : Post M W fr env σ w P (r.bind f)) : Post M W fr env σ w (fun a w1 G1 H1 => Post M W fr env σ w1 P (f a G1)) r := by
  cases r with
  | ok a G => exact fun w' H' l' r' => Post.up h l'
  | exc x G => exact h
  | bad => exact h
theorem Post.imp {α : Type} {P P' : α → Wd → Gh → Hp → Prop} {r : R α} (h : Post M W fr env σ w P r) (k : ∀ a w' G' H', w.Le w' → RS M w' fr env G' σ H' → P a w' G' H' → P' a w' G' H') : Post M W fr env σ w P' r := by
  cases r with
  | ok a G => exact fun w' H' l' r' => k a w' G H' l' r' (h w' H' l' r')
  | exc x G => exact h
  | bad => exact h
theorem Post.here {α : Type} {P : α → Wd → Gh → Hp → Prop} {a : α} {G : Gh} {H : Hp} (h : Post M W fr env σ w P (.ok a G)) (r : RS M w fr env G σ H) : P a w G H := h w H (Wd.Le.refl w) r
end
abbrev PE' (M : Im) (Q : VK) : D → Wd → Gh → Hp → Prop := fun d w' _ H' => ∀ v, DV M w' d v → Q v H'
abbrev PT' (Q : Bool → Hp → Prop) : Bool → Wd → Gh → Hp → Prop := fun b _ _ H' => Q b H'
abbrev PL' (M : Im) (Q : List V → Hp → Prop) : List D → Wd → Gh → Hp → Prop := fun ds w' _ H' => ∀ vs, DVs M w' ds vs → Q vs H'

/-- an expression, a test, an argument list and their clean meanings -/
def SE (M : Im) (W : XW) (X : Cx) (e : Expr) (m : ME) : Prop := ∃ t, PE X e t ∧ ∀ w fr env G σ H Q, RS M w fr env G σ H → Post M W fr env σ w (PE' M Q) (m env G) → t σ H Q
def ST (M : Im) (W : XW) (X : Cx) (e : Expr) (m : MT) : Prop := ∃ t, PT X e t ∧ ∀ w fr env G σ H Q, RS M w fr env G σ H → Post M W fr env σ w (PT' Q) (m env G) → t σ H Q
def SW (M : Im) (W : XW) (X : Cx) (e : Expr) (m : MT) : Prop := ∃ t, PW X e t ∧ ∀ w fr env G σ H Q, RS M w fr env G σ H → Post M W fr env σ w (PT' Q) (m env G) → t σ H Q
def SA (M : Im) (W : XW) (X : Cx) (es : List Expr) (m : ML) : Prop := ∃ t, PA X es t ∧ ∀ w fr env G σ H Q, RS M w fr env G σ H → Post M W fr env σ w (PL' M Q) (m env G) → t σ H Q
/-- an expression that hands out a new list -/
def SF (M : Im) (W : XW) (X : Cx) (e : Expr) (m : ML) : Prop := ∃ t, PE X e t ∧ ∀ w fr env G σ H Q, RS M w fr env G σ H →
  Post M W fr env σ w (fun ds w' _ H' => ∀ vs p, DVs M w' ds vs → vs.length ≤ sizeLine → H' p = none → Q (.ref p) (upd H' p (.lst vs))) (m env G) → t σ H Q
theorem SW.st {M : Im} {W : XW} {X : Cx} {e : Expr} {m : MT} (h : SW M W X e m) : ST M W X e m := let ⟨t, h1, h2⟩ := h; ⟨t, h1.pt, h2⟩

section
variable {M : Im} {W : XW} {X : Cx} {k : Nat} {a b c : Expr} {ma mb mc : ME} {pos : Pos}

/-! ### names, constants -/
theorem se_lv {i : Nat} {x : Str} (hN : X.N[i]? = some x) (hv : Vis X.env.scope x) (hd : (x == ("__debug__" : Str)) = false) (hcd : (x == ("__classdict__" : Str)) = false) : SE M W X (.Name x pos) (eLv i) := by
  refine ⟨_, pe_var hN hv hd hcd, fun w fr env G σ H Q r h => ?_⟩
  unfold eLv at h
  cases e : env[i]? with
  | none => rw [e] at h; exact h.elim
  | some s =>
    rw [e] at h
    cases s with
    | un => exact h.elim
    | own xs => exact h.elim
    | val d =>
      obtain ⟨v, h1, h2⟩ := r.get e
      exact ⟨v, h1, Post.here h r v h2⟩
theorem se_c {d : D} {v : V} {e : Expr} (hp : PE X e (fun _ H Q => Q v H)) (hd : ∀ w, DV M w d v) : SE M W X e (eC d) :=
  ⟨_, hp, fun w fr env G σ H Q r h => Post.here h r v (hd w)⟩
theorem se_int {i : Int} {j : Nat} : SE M W X (.Constant (.int i) j pos) (eC (.int i)) := se_c pe_int fun _ => .int i
theorem se_str {x : Str} {j : Nat} : SE M W X (.Constant (.str x) j pos) (eC (.str x)) := se_c pe_str fun _ => .str x
theorem se_bl {x : Bool} {j : Nat} : SE M W X (.Constant (.bool x) j pos) (eC (.bl x)) := se_c pe_bl fun _ => .bl x
theorem se_non {j : Nat} : SE M W X (.Constant .none j pos) (eC .non) := se_c pe_non fun _ => .non
theorem se_glob {x : Str} {d : D} {v : V} {u : Value} (g : GX M k X) (hg : Gl X x) (hm : M.mg x = some u) (r : RelV v u) (hv : ∀ w, DV M w d v) (hd : (x == ("__debug__" : Str)) = false) : SE M W X (.Name x pos) (eC d) :=
  se_c (pe_glob hg (by rw [g.mg]; exact hm) r hd) hv

/-! ### data as the library has it -/
section
variable {w : Wd} {H : Hp}
mutual
theorem DV.dp (hc : ∀ a o, w.C a = some o → H a = some o) : ∀ (d : D) (v : V) (n : Nat), DV M w d v → okD d n = true → Dp M.K H v (toP d)
  | .non, _, _, h, _ => by cases h; exact .non
  | .bl b, _, _, h, _ => by cases h; exact .bl b
  | .int i, _, _, h, _ => by cases h; exact .int i
  | .str x, _, _, h, _ => by cases h; exact .str x
  | .tup xs, _, 0, h, o => by simp [okD] at o
  | .lst xs, _, 0, h, o => by simp [okD] at o
  | .tup xs, _, n + 1, h, o => by
    cases h with
    | tup h1 h2 => exact .tup (SqT.mono hc h1) (DVs.dp hc xs _ n h2 (by simpa [okD] using o))
  | .lst xs, _, n + 1, h, o => by
    cases h with
    | lst h1 h2 => exact .lst (.inl (.inl (hc _ _ h1))) (DVs.dp hc xs _ n h2 (by simpa [okD] using o))
  | .loc _, _, _, _, o => by simp [okD] at o
  | .fn _, _, _, _, o => by simp [okD] at o
  | .arr _, _, _, _, o => by simp [okD] at o
theorem DVs.dp (hc : ∀ a o, w.C a = some o → H a = some o) : ∀ (ds : List D) (vs : List V) (n : Nat), DVs M w ds vs → okDs ds n = true → DpAll M.K H vs (toPs ds)
  | [], _, _, h, _ => by cases h; exact .nil
  | d :: ds, _, n, h, o => by
    cases h with
    | cons h1 h2 =>
      have o' : okD d n = true ∧ okDs ds n = true := by simpa [okDs] using o
      exact .cons (DV.dp hc d _ n h1 o'.1) (DVs.dp hc ds _ n h2 o'.2)
end
end
mutual
theorem okD_lay : ∀ (d : D) (n : Nat), okD d n = true → (toP d).canLay0 = true ∧ (toP d).depth ≤ n
  | .non, _, _ => by simp [toP, PyData.canLay0, PyData.depth]
  | .bl b, _, _ => by simp [toP, PyData.canLay0, PyData.depth]
  | .int i, _, _ => by simp [toP, PyData.canLay0, PyData.depth]
  | .str x, _, o => by
    have o : PyData.strOk x = true := by simpa [okD] using o
    simp [toP, PyData.canLay0, PyData.depth, o]
  | .tup xs, 0, o => by simp [okD] at o
  | .lst xs, 0, o => by simp [okD] at o
  | .tup xs, n + 1, o => by
    obtain ⟨h1, h2⟩ := okDs_lay xs n (by simpa [okD] using o)
    simp only [toP, PyData.canLay0, PyData.depth]
    exact ⟨h1, Nat.succ_le_succ h2⟩
  | .lst xs, n + 1, o => by
    obtain ⟨h1, h2⟩ := okDs_lay xs n (by simpa [okD] using o)
    simp only [toP, PyData.canLay0, PyData.depth]
    exact ⟨h1, Nat.succ_le_succ h2⟩
  | .loc _, _, o => by simp [okD] at o
  | .fn _, _, o => by simp [okD] at o
  | .arr _, _, o => by simp [okD] at o
theorem okDs_lay : ∀ (ds : List D) (n : Nat), okDs ds n = true → PyData.canLayAll0 (toPs ds) = true ∧ PyData.depthAll (toPs ds) ≤ n
  | [], _, _ => by simp [toPs, PyData.canLayAll0, PyData.depthAll]
  | d :: ds, n, o => by
    have o' : okD d n = true ∧ okDs ds n = true := by simpa [okDs] using o
    obtain ⟨h1, h2⟩ := okD_lay d n o'.1
    obtain ⟨h3, h4⟩ := okDs_lay ds n o'.2
    simp only [toPs, PyData.canLayAll0, PyData.depthAll, h1, h3]
    exact ⟨rfl, Nat.max_le.mpr ⟨h2, h4⟩⟩
end
theorem okD_shaped {d : D} (h : okD d 64 = true) : SeqAt.shaped (toP d) = true := by
  obtain ⟨h1, h2⟩ := okD_lay d 64 h
  unfold SeqAt.shaped
  rw [h1, decide_eq_true h2]; rfl
mutual
theorem eqv_eqD : ∀ (x y : D) (n m : Nat), okD x n = true → okD y m = true → PyData.eqv (toP x) (toP y) = eqD x y
  | .tup xs, .tup ys, n + 1, m + 1, h1, h2 => by
    simp only [toP, PyData.eqv, eqD]
    exact eqvs_eqDs xs ys n m (by simpa [okD] using h1) (by simpa [okD] using h2)
  | .lst xs, .lst ys, n + 1, m + 1, h1, h2 => by
    simp only [toP, PyData.eqv, eqD]
    exact eqvs_eqDs xs ys n m (by simpa [okD] using h1) (by simpa [okD] using h2)
  | .tup xs, _, 0, _, h1, _ => by simp [okD] at h1
  | .lst xs, _, 0, _, h1, _ => by simp [okD] at h1
  | _, .tup xs, _, 0, _, h1 => by simp [okD] at h1
  | _, .lst xs, _, 0, _, h1 => by simp [okD] at h1
  | .loc _, _, _, _, h1, _ => by simp [okD] at h1
  | .fn _, _, _, _, h1, _ => by simp [okD] at h1
  | .arr _, _, _, _, h1, _ => by simp [okD] at h1
  | _, .loc _, _, _, _, h1 => by simp [okD] at h1
  | _, .fn _, _, _, _, h1 => by simp [okD] at h1
  | _, .arr _, _, _, _, h1 => by simp [okD] at h1
  | .non, .non, _, _, _, _ => by simp [toP, PyData.eqv, eqD]
  | .non, .bl _, _, _, _, _ => by simp [toP, PyData.eqv, eqD]
  | .non, .int _, _, _, _, _ => by simp [toP, PyData.eqv, eqD]
  | .non, .str _, _, _, _, _ => by simp [toP, PyData.eqv, eqD]
  | .non, .tup _, _, _, _, _ => by simp [toP, PyData.eqv, eqD]
  | .non, .lst _, _, _, _, _ => by simp [toP, PyData.eqv, eqD]
  | .bl _, .non, _, _, _, _ => by simp [toP, PyData.eqv, eqD]
  | .bl _, .bl _, _, _, _, _ => by simp [toP, PyData.eqv, eqD]
  | .bl _, .int _, _, _, _, _ => by simp [toP, PyData.eqv, eqD]
  | .bl _, .str _, _, _, _, _ => by simp [toP, PyData.eqv, eqD]
  | .bl _, .tup _, _, _, _, _ => by simp [toP, PyData.eqv, eqD]
  | .bl _, .lst _, _, _, _, _ => by simp [toP, PyData.eqv, eqD]
  | .int _, .non, _, _, _, _ => by simp [toP, PyData.eqv, eqD]
  | .int _, .bl _, _, _, _, _ => by simp [toP, PyData.eqv, eqD]
  | .int _, .int _, _, _, _, _ => by simp [toP, PyData.eqv, eqD]
  | .int _, .str _, _, _, _, _ => by simp [toP, PyData.eqv, eqD]
  | .int _, .tup _, _, _, _, _ => by simp [toP, PyData.eqv, eqD]
  | .int _, .lst _, _, _, _, _ => by simp [toP, PyData.eqv, eqD]
  | .str _, .non, _, _, _, _ => by simp [toP, PyData.eqv, eqD]
  | .str _, .bl _, _, _, _, _ => by simp [toP, PyData.eqv, eqD]
  | .str _, .int _, _, _, _, _ => by simp [toP, PyData.eqv, eqD]
  | .str _, .str _, _, _, _, _ => by simp [toP, PyData.eqv, eqD]
  | .str _, .tup _, _, _, _, _ => by simp [toP, PyData.eqv, eqD]
  | .str _, .lst _, _, _, _, _ => by simp [toP, PyData.eqv, eqD]
  | .tup _, .non, _, _, _, _ => by simp [toP, PyData.eqv, eqD]
  | .tup _, .bl _, _, _, _, _ => by simp [toP, PyData.eqv, eqD]
  | .tup _, .int _, _, _, _, _ => by simp [toP, PyData.eqv, eqD]
  | .tup _, .str _, _, _, _, _ => by simp [toP, PyData.eqv, eqD]
  | .tup _, .lst _, _, _, _, _ => by simp [toP, PyData.eqv, eqD]
  | .lst _, .non, _, _, _, _ => by simp [toP, PyData.eqv, eqD]
  | .lst _, .bl _, _, _, _, _ => by simp [toP, PyData.eqv, eqD]
  | .lst _, .int _, _, _, _, _ => by simp [toP, PyData.eqv, eqD]
  | .lst _, .str _, _, _, _, _ => by simp [toP, PyData.eqv, eqD]
  | .lst _, .tup _, _, _, _, _ => by simp [toP, PyData.eqv, eqD]
theorem eqvs_eqDs : ∀ (xs ys : List D) (n m : Nat), okDs xs n = true → okDs ys m = true → PyData.eqvAll (toPs xs) (toPs ys) = eqDs xs ys
  | [], [], _, _, _, _ => by simp [toPs, PyData.eqvAll, eqDs]
  | [], _ :: _, _, _, _, _ => by simp [toPs, PyData.eqvAll, eqDs]
  | _ :: _, [], _, _, _, _ => by simp [toPs, PyData.eqvAll, eqDs]
  | x :: xs, y :: ys, n, m, h1, h2 => by
    have a : okD x n = true ∧ okDs xs n = true := by simpa [okDs] using h1
    have b : okD y m = true ∧ okDs ys m = true := by simpa [okDs] using h2
    simp only [toPs, PyData.eqvAll, eqDs, eqv_eqD x y n m a.1 b.1, eqvs_eqDs xs ys n m a.2 b.2]
end
end
end GL
/-! GL part 4: operators and comparisons. -/
namespace GL
open PySem L2

/-- a value as it stands now: a list, mutable or not, by its items -/
inductive DH (M : Im) (w : Wd) (H : Hp) : D → V → Prop
  | lst {xs : List D} {vs : List V} {a : Addr} : H a = some (.lst vs) → DVs M w xs vs → DH M w H (.lst xs) (.ref a)
  | dv {d : D} {v : V} : DV M w d v → (∀ xs, d ≠ .lst xs) → DH M w H d v
section
variable {M : Im} {W : XW} {X : Cx} {k : Nat} {w : Wd} {fr : List (Addr × HO)} {env : Env'} {G : Gh} {σ : L2.St} {H : Hp} {x y : D} {v u : V}
theorem DH.of (r : RS M w fr env G σ H) (h : DV M w x v) : DH M w H (deref G x) v := by
  cases h with
  | lst h1 h2 => exact .lst (r.cold _ _ h1) h2
  | loc h1 =>
    rename_i n a
    cases e : G[n]? with
    | none =>
      have e' : deref G (.loc n) = .loc n := by simp [deref, e]
      rw [e']
      exact .dv (.loc h1) (fun _ z => nomatch z)
    | some o =>
      cases o with
      | ins c fs =>
        have e' : deref G (.loc n) = .loc n := by simp [deref, e]
        rw [e']
        exact .dv (.loc h1) (fun _ z => nomatch z)
      | dct kvs =>
        have e' : deref G (.loc n) = .loc n := by simp [deref, e]
        rw [e']
        exact .dv (.loc h1) (fun _ z => nomatch z)
      | lst xs =>
        have e' : deref G (.loc n) = .lst xs := by simp [deref, e]
        rw [e']
        obtain ⟨b, ho, q1, q2, q3⟩ := r.obj e
        rw [h1] at q1; cases q1
        cases q3 with
        | lst q3 => exact .lst q2 q3
  | non => exact .dv .non (fun _ z => nomatch z)
  | bl b => exact .dv (.bl b) (fun _ z => nomatch z)
  | int b => exact .dv (.int b) (fun _ z => nomatch z)
  | str b => exact .dv (.str b) (fun _ z => nomatch z)
  | tup a b => exact .dv (.tup a b) (fun _ z => nomatch z)
  | fn a => exact .dv (.fn a) (fun _ z => nomatch z)
  | arr a => exact .dv (.arr a) (fun _ z => nomatch z)
theorem DH.int {i : Int} (h : DH M w H (.int i) v) : v = .int i := by cases h with | dv h _ => cases h; rfl
theorem DH.str {i : Str} (h : DH M w H (.str i) v) : v = .str i := by cases h with | dv h _ => cases h; rfl
theorem DH.bl {i : Bool} (h : DH M w H (.bl i) v) : v = .bl i := by cases h with | dv h _ => cases h; rfl
theorem DH.non (h : DH M w H .non v) : v = .non := by cases h with | dv h _ => cases h; rfl
theorem DH.tup {xs : List D} (h : DH M w H (.tup xs) v) : ∃ a vs, v = .ref a ∧ SqT M.K w.C a vs ∧ DVs M w xs vs := by
  cases h with | dv h _ => cases h with | tup h1 h2 => exact ⟨_, _, rfl, h1, h2⟩
theorem DH.list {xs : List D} (h : DH M w H (.lst xs) v) : ∃ a vs, v = .ref a ∧ H a = some (.lst vs) ∧ DVs M w xs vs := by
  cases h with
  | lst h1 h2 => exact ⟨_, _, rfl, h1, h2⟩
  | dv h n => exact absurd rfl (n _)
theorem DH.arr {ns : List Int} (h : DH M w H (.arr ns) v) : ∃ a, v = .ref a ∧ SqL M.K w.C a (ns.map V.int) := by
  cases h with | dv h _ => cases h with | arr h1 => exact ⟨_, rfl, h1⟩
theorem DH.dp (hc : ∀ a o, w.C a = some o → H a = some o) {n : Nat} (h : DH M w H x v) (o : okD x n = true) : Dp M.K H v (toP x) := by
  cases h with
  | dv h _ => exact h.dp hc _ _ _ o
  | lst h1 h2 =>
    rename_i xs vs a
    cases n with
    | zero => simp [okD] at o
    | succ n => exact .lst (.inl (.inl h1)) (DVs.dp hc _ _ n h2 (by simpa [okD] using o))
/-- a new tuple, a new list are handed on -/
theorem post_tup {Q : VK} {xs : List D} {vs : List V} (r : RS M w fr env G σ H) (hx : DVs M w xs vs) (h : Post M W fr env σ w (PE' M Q) (.ok (.tup xs) G)) {p : Addr} (hp : H p = none) : Q (.ref p) (upd H p (.tup vs)) := by
  obtain ⟨l, r'⟩ := r.newCold (o := .tup vs) hp
  exact h _ _ l r' _ (.tup (.inl (.inl upd_same)) (hx.up l))
theorem post_lst {Q : VK} {xs : List D} {vs : List V} (r : RS M w fr env G σ H) (hx : DVs M w xs vs) (h : Post M W fr env σ w (PE' M Q) (.ok (.lst xs) G)) {p : Addr} (hp : H p = none) : Q (.ref p) (upd H p (.lst vs)) := by
  obtain ⟨l, r'⟩ := r.newCold (o := .lst vs) hp
  exact h _ _ l r' _ (.lst upd_same (hx.up l))
theorem guard_post {α : Type} {P : D → Wd → Gh → Hp → Prop} {b : Bool} {d : D} (h : Post M W fr env σ w P (guardR b d G)) : b = true ∧ Post M W fr env σ w P (.ok d G) := by
  unfold guardR at h
  cases b with
  | true => exact ⟨rfl, h⟩
  | false => exact h.elim
end

section
variable {M : Im} {W : XW} {X : Cx} {k : Nat}
theorem op_fdivG : OpR X (binaryOp .FloorDiv) (rI (fun _ j => j ≠ 0 ∧ j.natAbs.log2 < 9000) fun i j => .int (i.fdiv j)) := opI fun _ _ _ _ _ _ _ hc q => PyProof.Rows.floordiv_int hc.1 q (.inl (PyProof.noPylong_of_log2 hc.2))

def OpOk (M : Im) (W : XW) (X : Cx) (f : Value → Value → Sem Value) (o : D → D → Gh → R D) : Prop :=
  ∃ r, OpR X f r ∧ ∀ w fr env G σ H Q x y vx vy, RS M w fr env G σ H → DV M w x vx → DV M w y vy → Post M W fr env σ w (PE' M Q) (o x y G) → r vx vy H Q

theorem binop_ok (g : GX M k X) (op : Operator) : OpOk M W X (binaryOp op) (binop op) := by
  have never : ∀ f : Value → Value → Sem Value, OpR X f (fun _ _ _ _ => False) := fun f _ _ _ _ _ _ _ _ _ _ _ _ h => h.elim
  cases op with
  | Add =>
    refine ⟨_, op_add.or (op_add_str.or (op_catA.or op_cat)), fun w fr env G σ H Q x y vx vy r hx hy h => ?_⟩
    have dx := DH.of r hx
    have dy := DH.of r hy
    unfold binop at h
    generalize deref G x = x' at *
    generalize deref G y = y' at *
    cases x' <;> cases y' <;> try exact h.elim
    · rw [dx.int, dy.int]
      exact .inl ⟨_, _, rfl, rfl, Post.here h r _ (.int _)⟩
    · obtain ⟨hb, h⟩ := guard_post (α := D) h
      rw [dx.str, dy.str]
      exact .inr (.inl ⟨_, _, rfl, rfl, lim_le (of_decide_eq_true hb), Post.here h r _ (.str _)⟩)
    · obtain ⟨hb, h⟩ := guard_post (α := D) h
      obtain ⟨a, vs, rfl, hs, hd⟩ := dx.tup
      obtain ⟨b, us, rfl, hs', hd'⟩ := dy.tup
      have ha := SqT.mono r.cold hs
      have hb' := SqT.mono r.cold hs'
      rw [← g.K] at ha hb'
      refine .inr (.inr (.inl ⟨a, b, vs, us, rfl, rfl, ha, hb', ?_, fun e => ?_, fun e e' => ?_, fun e e' p hp => ?_⟩))
      · rw [← hd.length, ← hd'.length]; exact lim_le (of_decide_eq_true hb)
      · subst e
        cases hd
        exact Post.here h r _ (.tup hs' hd')
      · subst e'
        cases hd'
        rw [List.append_nil] at h
        exact Post.here h r _ (.tup hs hd)
      · exact post_tup r (hd.append hd') h hp
    · obtain ⟨hb, h⟩ := guard_post (α := D) h
      obtain ⟨a, vs, rfl, hs, hd⟩ := dx.list
      obtain ⟨b, us, rfl, hs', hd'⟩ := dy.list
      refine .inr (.inr (.inr ⟨a, b, vs, us, rfl, rfl, hs, hs', ?_, fun p hp => ?_⟩))
      · rw [← hd.length, ← hd'.length]; exact lim_le (of_decide_eq_true hb)
      · exact post_lst r (hd.append hd') h hp
  | Sub =>
    refine ⟨_, op_sub, fun w fr env G σ H Q x y vx vy r hx hy h => ?_⟩
    have dx := DH.of r hx
    have dy := DH.of r hy
    unfold binop at h
    generalize deref G x = x' at *
    generalize deref G y = y' at *
    cases x' <;> cases y' <;> try exact h.elim
    rw [dx.int, dy.int]
    exact ⟨_, _, rfl, rfl, Post.here h r _ (.int _)⟩
  | Mult =>
    refine ⟨_, op_mul.or (op_mulW.or op_rep), fun w fr env G σ H Q x y vx vy r hx hy h => ?_⟩
    have dx := DH.of r hx
    have dy := DH.of r hy
    unfold binop at h
    generalize deref G x = x' at *
    generalize deref G y = y' at *
    cases x' <;> cases y' <;> try exact h.elim
    · rename_i i j
      obtain ⟨hb, h⟩ := guard_post (α := D) h
      rw [dx.int, dy.int]
      have hb := tru_iff.mp hb
      rcases hb with (hb | hb) | hb
      · exact .inl ⟨_, _, rfl, rfl, .inl hb, Post.here h r _ (.int _)⟩
      · exact .inl ⟨_, _, rfl, rfl, .inr hb, Post.here h r _ (.int _)⟩
      · exact .inr (.inl ⟨_, _, rfl, rfl, hb, Post.here h r _ (.int _)⟩)
    · rename_i xs j
      obtain ⟨hb, h⟩ := guard_post (α := D) h
      obtain ⟨a, vs, rfl, hs, hd⟩ := dx.list
      rw [dy.int]
      simp only [Bool.and_eq_true, decide_eq_true_eq] at hb
      have rep : ∀ n : Nat, DVs M w (List.replicate n xs).flatten (List.replicate n vs).flatten := fun n => by
        induction n with
        | zero => exact .nil
        | succ n ih => simp only [List.replicate_succ, List.flatten_cons]; exact hd.append ih
      refine .inr (.inr ⟨a, j, vs, rfl, rfl, hs, by omega, by omega, ?_, fun p hp => ?_⟩)
      · rw [← hd.length]; exact lim_le hb.2
      · exact post_lst r (rep _) h hp
  | FloorDiv =>
    refine ⟨_, op_fdivG, fun w fr env G σ H Q x y vx vy r hx hy h => ?_⟩
    have dx := DH.of r hx
    have dy := DH.of r hy
    unfold binop at h
    generalize deref G x = x' at *
    generalize deref G y = y' at *
    cases x' <;> cases y' <;> try exact h.elim
    obtain ⟨hb, h⟩ := guard_post (α := D) h
    have hb := tru_iff.mp hb
    rw [dx.int, dy.int]
    exact ⟨_, _, rfl, rfl, hb, Post.here h r _ (.int _)⟩
  | Mod =>
    refine ⟨_, op_modN, fun w fr env G σ H Q x y vx vy r hx hy h => ?_⟩
    have dx := DH.of r hx
    have dy := DH.of r hy
    unfold binop at h
    generalize deref G x = x' at *
    generalize deref G y = y' at *
    cases x' <;> cases y' <;> try exact h.elim
    obtain ⟨hb, h⟩ := guard_post (α := D) h
    rw [dx.int, dy.int]
    exact ⟨_, _, rfl, rfl, of_decide_eq_true hb, Post.here h r _ (.int _)⟩
  | Pow =>
    refine ⟨_, op_pow, fun w fr env G σ H Q x y vx vy r hx hy h => ?_⟩
    have dx := DH.of r hx
    have dy := DH.of r hy
    unfold binop at h
    generalize deref G x = x' at *
    generalize deref G y = y' at *
    cases x' <;> cases y' <;> try exact h.elim
    obtain ⟨hb, h⟩ := guard_post (α := D) h
    have hb := tru_iff.mp hb
    rw [dx.int, dy.int]
    exact ⟨_, _, rfl, rfl, ⟨hb.1.1, hb.1.2, hb.2⟩, Post.here h r _ (.int _)⟩
  | MatMult => exact ⟨_, never _, fun w fr env G σ H Q x y vx vy r hx hy h => by unfold binop binopV at h; exact h⟩
  | Div => exact ⟨_, never _, fun w fr env G σ H Q x y vx vy r hx hy h => by unfold binop binopV at h; exact h⟩
  | LShift => exact ⟨_, never _, fun w fr env G σ H Q x y vx vy r hx hy h => by unfold binop binopV at h; exact h⟩
  | RShift => exact ⟨_, never _, fun w fr env G σ H Q x y vx vy r hx hy h => by unfold binop binopV at h; exact h⟩
  | BitOr => exact ⟨_, never _, fun w fr env G σ H Q x y vx vy r hx hy h => by unfold binop binopV at h; exact h⟩
  | BitXor => exact ⟨_, never _, fun w fr env G σ H Q x y vx vy r hx hy h => by unfold binop binopV at h; exact h⟩
  | BitAnd => exact ⟨_, never _, fun w fr env G σ H Q x y vx vy r hx hy h => by unfold binop binopV at h; exact h⟩

variable {a b c : Expr} {ma mb mc : ME} {pos : Pos}
theorem se_bin (g : GX M k X) {op : Operator} (ha : SE M W X a ma) (hb : SE M W X b mb) : SE M W X (.BinOp a op b pos) (eBin op ma mb) := by
  obtain ⟨r, o1, o2⟩ := binop_ok (W := W) g op
  obtain ⟨ta, a1, a2⟩ := ha
  obtain ⟨tb, b1, b2⟩ := hb
  refine ⟨_, pe_op o1 a1 b1, fun w fr env G σ H Q rs h => ?_⟩
  refine a2 w fr env G σ H _ rs ((Post.bind h).imp fun x w1 G1 H1 l1 r1 h1 vx dx => ?_)
  refine b2 w1 fr env G1 σ H1 _ r1 ((Post.bind h1).imp fun y w2 G2 H2 l2 r2 h2 vy dy => ?_)
  exact o2 w2 fr env G2 σ H2 Q x y vx vy r2 (dx.up l2) dy h2
end
end GL
/-! GL part 5: comparisons, tests, displays, subscripts. -/
namespace GL
open PySem L2
section
variable {M : Im} {W : XW} {X : Cx} {k : Nat}
theorem flat_DV {w : Wd} {d : D} {v : V} (h : DV M w d v) (f : flatD d = true) : flatV v = true := by cases h <;> first | rfl | cases f
theorem flat_eq {w : Wd} {d e : D} {v u : V} (h : DV M w d v) (h' : DV M w e u) (f : flatD d = true) (f' : flatD e = true) : eqV v u = eqD d e := by
  cases h <;> cases h' <;> first | rfl | cases f | cases f' | (simp [eqV, eqD])
theorem flat_DVs {w : Wd} : ∀ {ds : List D} {vs : List V}, DVs M w ds vs → ds.all flatD = true → vs.all flatV = true
  | _, _, .nil, _ => rfl
  | _, _, .cons a b, h => by
    simp only [List.all_cons, Bool.and_eq_true] at h ⊢
    exact ⟨flat_DV a h.1, flat_DVs b h.2⟩
theorem flat_in {w : Wd} {x : D} {v : V} (hx : DV M w x v) (f : flatD x = true) : ∀ {ds : List D} {vs : List V}, DVs M w ds vs → ds.all flatD = true → inV v vs = memD x ds
  | _, _, .nil, _ => rfl
  | _, _, .cons a b, h => by
    simp only [List.all_cons, Bool.and_eq_true] at h
    have ih := flat_in hx f b h.2
    unfold inV memD at ih ⊢
    simp only [List.any_cons]
    rw [ih, flat_eq a hx h.1 f]
theorem mem_eqv {x : D} {n m : Nat} (hx : okD x n = true) : ∀ {ds : List D}, okDs ds m = true → ((toPs ds).any fun z => PyData.eqv z (toP x)) = memD x ds
  | [], _ => by simp [toPs, memD]
  | d :: ds, h => by
    have o' : okD d m = true ∧ okDs ds m = true := by simpa [okDs] using h
    have ih := mem_eqv hx o'.2
    unfold memD at ih ⊢
    simp only [toPs, List.any_cons]
    rw [ih, eqv_eqD d x m n o'.1 hx]
theorem isNon_DV {w : Wd} {H : Hp} {d : D} {v : V} (h : DH M w H d v) : decide (v = .non) = isNon d := by
  cases h with
  | lst _ _ => rfl
  | dv h _ => cases h <;> rfl
theorem dec_not {i j : Int} : decide (i ≤ j) = !decide (j < i) := by
  by_cases h : i ≤ j
  · have h2 : ¬ j < i := by omega
    rw [decide_eq_true h, decide_eq_false h2]; rfl
  · have h2 : j < i := by omega
    rw [decide_eq_false h, decide_eq_true h2]; rfl

theorem cmpop_ok (g : GX M k X) (op : CmpOp) : OpOk M W X (compareOp op) (cmpop op) := by
  cases op with
  | Eq =>
    refine ⟨_, op_eq.or (op_eqD g.u64), fun w fr env G σ H Q x y vx vy r hx hy h => ?_⟩
    have dx := DH.of r hx
    have dy := DH.of r hy
    unfold cmpop cmpopV at h
    obtain ⟨hb, h⟩ := guard_post (α := D) h
    simp only [okE, Bool.or_eq_true, Bool.and_eq_true] at hb
    rcases hb with hb | hb
    · generalize deref G x = x' at *
      generalize deref G y = y' at *
      cases x' <;> try exact absurd hb.1 Bool.false_ne_true
      cases y' <;> try exact absurd hb.2 Bool.false_ne_true
      rw [dx.str, dy.str]
      refine .inl ⟨rfl, ?_⟩
      rw [dec_str]
      exact Post.here h r _ (.bl _)
    have e1 := dx.dp r.cold hb.1
    have e2 := dy.dp r.cold hb.2
    rw [← g.K] at e1 e2
    refine .inr ⟨_, _, e1, e2, okD_shaped hb.1, okD_shaped hb.2, ?_⟩
    rw [eqv_eqD _ _ _ _ hb.1 hb.2]
    exact Post.here h r _ (.bl _)
  | NotEq =>
    refine ⟨_, op_ne.or (op_neD g.u64), fun w fr env G σ H Q x y vx vy r hx hy h => ?_⟩
    have dx := DH.of r hx
    have dy := DH.of r hy
    unfold cmpop cmpopV at h
    obtain ⟨hb, h⟩ := guard_post (α := D) h
    simp only [okE, Bool.or_eq_true, Bool.and_eq_true] at hb
    rcases hb with hb | hb
    · generalize deref G x = x' at *
      generalize deref G y = y' at *
      cases x' <;> try exact absurd hb.1 Bool.false_ne_true
      cases y' <;> try exact absurd hb.2 Bool.false_ne_true
      rw [dx.str, dy.str]
      refine .inl ⟨rfl, ?_⟩
      rw [dec_str]
      exact Post.here h r _ (.bl _)
    have e1 := dx.dp r.cold hb.1
    have e2 := dy.dp r.cold hb.2
    rw [← g.K] at e1 e2
    refine .inr ⟨_, _, e1, e2, okD_shaped hb.1, okD_shaped hb.2, ?_⟩
    rw [eqv_eqD _ _ _ _ hb.1 hb.2]
    exact Post.here h r _ (.bl _)
  | Lt =>
    refine ⟨_, op_lt.or op_lt_str, fun w fr env G σ H Q x y vx vy r hx hy h => ?_⟩
    have dx := DH.of r hx
    have dy := DH.of r hy
    unfold cmpop cmpopV at h
    generalize deref G x = x' at *
    generalize deref G y = y' at *
    cases x' <;> cases y' <;> try exact h.elim
    · rw [dx.int, dy.int]; exact .inl ⟨_, _, rfl, rfl, Post.here h r _ (.bl _)⟩
    · rw [dx.str, dy.str]; exact .inr ⟨_, _, rfl, rfl, Post.here h r _ (.bl _)⟩
  | Gt =>
    refine ⟨_, op_gt.or op_gt_str, fun w fr env G σ H Q x y vx vy r hx hy h => ?_⟩
    have dx := DH.of r hx
    have dy := DH.of r hy
    unfold cmpop cmpopV at h
    generalize deref G x = x' at *
    generalize deref G y = y' at *
    cases x' <;> cases y' <;> try exact h.elim
    · rw [dx.int, dy.int]; exact .inl ⟨_, _, rfl, rfl, Post.here h r _ (.bl _)⟩
    · rw [dx.str, dy.str]; exact .inr ⟨_, _, rfl, rfl, Post.here h r _ (.bl _)⟩
  | LtE =>
    refine ⟨_, op_le.or op_le_str, fun w fr env G σ H Q x y vx vy r hx hy h => ?_⟩
    have dx := DH.of r hx
    have dy := DH.of r hy
    unfold cmpop cmpopV at h
    generalize deref G x = x' at *
    generalize deref G y = y' at *
    cases x' <;> cases y' <;> try exact h.elim
    · rw [dx.int, dy.int]; exact .inl ⟨_, _, rfl, rfl, by dsimp only; rw [dec_not]; exact Post.here h r _ (.bl _)⟩
    · rw [dx.str, dy.str]; exact .inr ⟨_, _, rfl, rfl, Post.here h r _ (.bl _)⟩
  | GtE =>
    refine ⟨_, op_ge.or op_ge_str, fun w fr env G σ H Q x y vx vy r hx hy h => ?_⟩
    have dx := DH.of r hx
    have dy := DH.of r hy
    unfold cmpop cmpopV at h
    generalize deref G x = x' at *
    generalize deref G y = y' at *
    cases x' <;> cases y' <;> try exact h.elim
    · rw [dx.int, dy.int]; exact .inl ⟨_, _, rfl, rfl, by dsimp only; rw [dec_not]; exact Post.here h r _ (.bl _)⟩
    · rw [dx.str, dy.str]; exact .inr ⟨_, _, rfl, rfl, Post.here h r _ (.bl _)⟩
  | Is =>
    refine ⟨_, op_isN, fun w fr env G σ H Q x y vx vy r hx hy h => ?_⟩
    have dx := DH.of r hx
    have dy := DH.of r hy
    unfold cmpop at h
    generalize deref G x = x' at *
    generalize deref G y = y' at *
    cases y' <;> try exact h.elim
    refine ⟨dy.non, ?_⟩
    rw [isNon_DV dx]
    exact Post.here h r _ (.bl _)
  | IsNot =>
    refine ⟨_, op_notN, fun w fr env G σ H Q x y vx vy r hx hy h => ?_⟩
    have dx := DH.of r hx
    have dy := DH.of r hy
    unfold cmpop at h
    generalize deref G x = x' at *
    generalize deref G y = y' at *
    cases y' <;> try exact h.elim
    refine ⟨dy.non, ?_⟩
    rw [isNon_DV dx]
    exact Post.here h r _ (.bl _)
  | In =>
    refine ⟨_, (op_inD g.u65).or (op_in_seq.or op_in_sign), fun w fr env G σ H Q x y vx vy r hx hy h => ?_⟩
    have dx := DH.of r hx
    have dy := DH.of r hy
    unfold cmpop cmpopV at h
    generalize deref G x = x' at *
    generalize deref G y = y' at *
    cases y' <;> try (exact h.elim)
    · cases x' <;> try (exact h.elim)
      rename_i z x
      obtain ⟨hb, h⟩ := guard_post (α := D) h
      rw [dx.str, dy.str]
      obtain ⟨cs⟩ := x
      have e : ∃ c, cs = #[c] := by
        have := beq_iff_eq.mp hb
        exact Array.size_eq_one_iff.mp this
      obtain ⟨c, rfl⟩ := e
      exact .inr (.inr ⟨c, z, rfl, rfl, Post.here h r _ (.bl _)⟩)
    · rename_i ys
      have h : Post M W fr env σ w (PE' M Q) (guardR (flatD x' && ys.all flatD) (.bl (memD x' ys)) G) := by
        cases x' <;> exact h
      obtain ⟨hb, h⟩ := guard_post (α := D) h
      simp only [Bool.and_eq_true] at hb
      obtain ⟨a, vs, rfl, hs, hd⟩ := dy.tup
      have hs' := SqT.mono r.cold hs
      rw [← g.K] at hs'
      have dv : DV M w x' vx := by
        cases dx with
        | lst _ _ => cases hb.1
        | dv q _ => exact q
      refine .inr (.inl ⟨a, vs, rfl, .inr hs', flat_DV dv hb.1, flat_DVs hd hb.2, ?_⟩)
      rw [flat_in dv hb.1 hd hb.2]
      exact Post.here h r _ (.bl _)
    · rename_i ys
      have h : Post M W fr env σ w (PE' M Q) (guardR (okD x' 64 && okD (.lst ys) 64) (.bl (memD x' ys)) G) := by
        cases x' <;> exact h
      obtain ⟨hb, h⟩ := guard_post (α := D) h
      simp only [Bool.and_eq_true] at hb
      have e1 := dx.dp r.cold hb.1
      have e2 := dy.dp r.cold hb.2
      rw [← g.K] at e1 e2
      have e3 := okD_shaped hb.2
      rw [show toP (.lst ys) = .list (toPs ys) by rw [toP]] at e2 e3
      refine .inl ⟨_, _, e1, e2, okD_shaped hb.1, e3, ?_⟩
      rw [mem_eqv hb.1 (show okDs ys 63 = true by have := hb.2; simpa [okD] using this)]
      exact Post.here h r _ (.bl _)
  | NotIn =>
    refine ⟨_, (op_notInD g.u65).or (op_notIn_seq.or op_notIn_sign), fun w fr env G σ H Q x y vx vy r hx hy h => ?_⟩
    have dx := DH.of r hx
    have dy := DH.of r hy
    unfold cmpop cmpopV at h
    generalize deref G x = x' at *
    generalize deref G y = y' at *
    have ng : ∀ {b : Bool} {d : Bool}, Post M W fr env σ w (PE' M Q) (notR (guardR b (.bl d) G)) → b = true ∧ Post M W fr env σ w (PE' M Q) (.ok (.bl (!d)) G) := fun {b d} q => by
      cases b with
      | true => exact ⟨rfl, q⟩
      | false => exact q.elim
    cases y' <;> try (exact h.elim)
    · cases x' <;> try (exact h.elim)
      rename_i z x
      obtain ⟨hb, h⟩ := ng h
      rw [dx.str, dy.str]
      obtain ⟨cs⟩ := x
      have e : ∃ c, cs = #[c] := by
        have := beq_iff_eq.mp hb
        exact Array.size_eq_one_iff.mp this
      obtain ⟨c, rfl⟩ := e
      exact .inr (.inr ⟨c, z, rfl, rfl, Post.here h r _ (.bl _)⟩)
    · rename_i ys
      have h : Post M W fr env σ w (PE' M Q) (notR (guardR (flatD x' && ys.all flatD) (.bl (memD x' ys)) G)) := by
        cases x' <;> exact h
      obtain ⟨hb, h⟩ := ng h
      simp only [Bool.and_eq_true] at hb
      obtain ⟨a, vs, rfl, hs, hd⟩ := dy.tup
      have hs' := SqT.mono r.cold hs
      rw [← g.K] at hs'
      have dv : DV M w x' vx := by
        cases dx with
        | lst _ _ => cases hb.1
        | dv q _ => exact q
      refine .inr (.inl ⟨a, vs, rfl, .inr hs', flat_DV dv hb.1, flat_DVs hd hb.2, ?_⟩)
      rw [flat_in dv hb.1 hd hb.2]
      exact Post.here h r _ (.bl _)
    · rename_i ys
      have h : Post M W fr env σ w (PE' M Q) (notR (guardR (okD x' 64 && okD (.lst ys) 64) (.bl (memD x' ys)) G)) := by
        cases x' <;> exact h
      obtain ⟨hb, h⟩ := ng h
      simp only [Bool.and_eq_true] at hb
      have e1 := dx.dp r.cold hb.1
      have e2 := dy.dp r.cold hb.2
      rw [← g.K] at e1 e2
      have e3 := okD_shaped hb.2
      rw [show toP (.lst ys) = .list (toPs ys) by rw [toP]] at e2 e3
      refine .inl ⟨_, _, e1, e2, okD_shaped hb.1, e3, ?_⟩
      rw [mem_eqv hb.1 (show okDs ys 63 = true by have := hb.2; simpa [okD] using this)]
      exact Post.here h r _ (.bl _)

variable {a b c : Expr} {ma mb mc : ME} {pos : Pos}
theorem se_cmp (g : GX M k X) {op : CmpOp} (ha : SE M W X a ma) (hb : SE M W X b mb) (hm : behindInMarks op b = false) : SE M W X (.Compare a [op] [b] pos) (eCmp op ma mb) := by
  obtain ⟨r, o1, o2⟩ := cmpop_ok (W := W) g op
  obtain ⟨ta, a1, a2⟩ := ha
  obtain ⟨tb, b1, b2⟩ := hb
  refine ⟨_, pe_cmpR o1 a1 b1 hm, fun w fr env G σ H Q rs h => ?_⟩
  refine a2 w fr env G σ H _ rs ((Post.bind h).imp fun x w1 G1 H1 l1 r1 h1 vx dx => ?_)
  refine b2 w1 fr env G1 σ H1 _ r1 ((Post.bind h1).imp fun y w2 G2 H2 l2 r2 h2 vy dy => ?_)
  exact o2 w2 fr env G2 σ H2 Q x y vx vy r2 (dx.up l2) dy h2
/-- a reading that asks a bool -/
theorem asB_post {α : Type} {P : α → Wd → Gh → Hp → Prop} {f : Bool → Gh → R α} {fr : List (Addr × HO)} {env : Env'} {σ : L2.St} {w : Wd} {d : D} {G : Gh} {v : V} (h : Post M W fr env σ w P (asB f d G)) (hd : DV M w d v) :
    ∃ b, v = .bl b ∧ Post M W fr env σ w P (f b G) := by
  cases hd <;> first | exact h.elim | exact ⟨_, rfl, h⟩
theorem st_cmp (g : GX M k X) {op : CmpOp} (ha : SE M W X a ma) (hb : SE M W X b mb) (hm : behindInMarks op b = false) : ST M W X (.Compare a [op] [b] pos) (tV (eCmp op ma mb)) := by
  obtain ⟨r, o1, o2⟩ := cmpop_ok (W := W) g op
  obtain ⟨ta, a1, a2⟩ := ha
  obtain ⟨tb, b1, b2⟩ := hb
  refine ⟨_, pt_cmpR o1 a1 b1 hm, fun w fr env G σ H Q rs h => ?_⟩
  have h := Post.bind h
  refine a2 w fr env G σ H _ rs ((Post.bind h).imp fun x w1 G1 H1 l1 r1 h1 vx dx => ?_)
  refine b2 w1 fr env G1 σ H1 _ r1 ((Post.bind h1).imp fun y w2 G2 H2 l2 r2 h2 vy dy => ?_)
  refine o2 w2 fr env G2 σ H2 _ x y vx vy r2 (dx.up l2) dy (h2.imp fun z w3 G3 H3 l3 r3 h3 vz dz => ?_)
  obtain ⟨b, e, h4⟩ := asB_post h3 dz
  exact ⟨b, e, Post.here h4 r3⟩
theorem chain_read (g : GX M k X) {op op' : CmpOp} {r r' : R2} {tc : TE} {env : Env'} {fr : List (Addr × HO)} {σ : L2.St} {w2 : Wd} {G2 : Gh} {H2 : Hp} {Q : VK} {x y : D} {vx vy : V}
    (o2 : ∀ w fr env G σ H Q x y vx vy, RS M w fr env G σ H → DV M w x vx → DV M w y vy → Post M W fr env σ w (PE' M Q) (cmpop op x y G) → r vx vy H Q)
    (o2' : ∀ w fr env G σ H Q x y vx vy, RS M w fr env G σ H → DV M w x vx → DV M w y vy → Post M W fr env σ w (PE' M Q) (cmpop op' x y G) → r' vx vy H Q)
    (c2 : ∀ w fr env G σ H Q, RS M w fr env G σ H → Post M W fr env σ w (PE' M Q) (mc env G) → tc σ H Q)
    (r2 : RS M w2 fr env G2 σ H2) (dx : DV M w2 x vx) (dy : DV M w2 y vy)
    (h : Post M W fr env σ w2 (PE' M Q) ((cmpop op x y G2).bind (asB fun k g3 => if k then (mc env g3).bind fun z g4 => cmpop op' y z g4 else .ok (.bl false) g3))) :
    r vx vy H2 fun z H3 => ∃ k, z = .bl k ∧ (if k = true then tc σ H3 fun w' H4 => r' vy w' H4 Q else Q (.bl false) H3) := by
  refine o2 w2 fr env G2 σ H2 _ x y vx vy r2 dx dy ((Post.bind h).imp fun z w3 G3 H3 l3 r3 h3 vz dz => ?_)
  obtain ⟨b, e, h4⟩ := asB_post h3 dz
  refine ⟨b, e, ?_⟩
  cases b with
  | false =>
    rw [if_neg (by decide)]
    exact Post.here h4 r3 _ (.bl _)
  | true =>
    rw [if_pos rfl]
    refine c2 w3 fr env G3 σ H3 _ r3 ((Post.bind h4).imp fun z w4 G4 H4 l4 r4 h5 vz' dz' => ?_)
    exact o2' w4 fr env G4 σ H4 Q y z vy vz' r4 ((dy.up l3).up l4) dz' h5
theorem se_chain (g : GX M k X) {op op' : CmpOp} (ha : SE M W X a ma) (hb : SE M W X b mb) (hc : SE M W X c mc) (hm : lastMarks [op, op'] [b, c] = false) : SE M W X (.Compare a [op, op'] [b, c] pos) (eChain op op' ma mb mc) := by
  obtain ⟨r, o1, o2⟩ := cmpop_ok (W := W) g op
  obtain ⟨r', o1', o2'⟩ := cmpop_ok (W := W) g op'
  obtain ⟨ta, a1, a2⟩ := ha
  obtain ⟨tb, b1, b2⟩ := hb
  obtain ⟨tc, c1, c2⟩ := hc
  refine ⟨_, pe_chain o1 o1' a1 b1 c1 hm, fun w fr env G σ H Q rs h => ?_⟩
  refine a2 w fr env G σ H _ rs ((Post.bind h).imp fun x w1 G1 H1 l1 r1 h1 vx dx => ?_)
  refine b2 w1 fr env G1 σ H1 _ r1 ((Post.bind h1).imp fun y w2 G2 H2 l2 r2 h2 vy dy => ?_)
  exact chain_read g o2 o2' c2 r2 (dx.up l2) dy h2
theorem st_chain (g : GX M k X) {op op' : CmpOp} (ha : SE M W X a ma) (hb : SE M W X b mb) (hc : SE M W X c mc) (hm : lastMarks [op, op'] [b, c] = false) : ST M W X (.Compare a [op, op'] [b, c] pos) (tV (eChain op op' ma mb mc)) := by
  obtain ⟨r, o1, o2⟩ := cmpop_ok (W := W) g op
  obtain ⟨r', o1', o2'⟩ := cmpop_ok (W := W) g op'
  obtain ⟨ta, a1, a2⟩ := ha
  obtain ⟨tb, b1, b2⟩ := hb
  obtain ⟨tc, c1, c2⟩ := hc
  refine ⟨_, pt_chain o1 o1' a1 b1 c1 hm, fun w fr env G σ H Q rs h => ?_⟩
  have h := Post.bind h
  refine a2 w fr env G σ H _ rs ((Post.bind h).imp fun x w1 G1 H1 l1 r1 h1 vx dx => ?_)
  refine b2 w1 fr env G1 σ H1 _ r1 ((Post.bind h1).imp fun y w2 G2 H2 l2 r2 h2 vy dy => ?_)
  refine chain_read g o2 o2' c2 r2 (dx.up l2) dy (h2.imp fun z w3 G3 H3 l3 r3 h3 vz dz => ?_)
  obtain ⟨b, e, h4⟩ := asB_post h3 dz
  exact ⟨b, e, Post.here h4 r3⟩
theorem se_neg (g : GX M k X) (ha : SE M W X a ma) : SE M W X (.UnaryOp .USub a pos) (eNeg ma) := by
  obtain ⟨ta, a1, a2⟩ := ha
  refine ⟨_, pe_un un_neg a1, fun w fr env G σ H Q rs h => ?_⟩
  refine a2 w fr env G σ H _ rs ((Post.bind h).imp fun x w1 G1 H1 l1 r1 h1 vx dx => ?_)
  cases dx <;> try exact h1.elim
  exact ⟨_, rfl, Post.here h1 r1 _ (.int _)⟩

/-! ### tests -/
/-- an expression whose value is a bool, as a test -/
theorem st_val (ha : SE M W X a ma) (he : ∀ whole, isTrue a X.env whole = (do let v ← whole; standAt a.pos; holding [v] (truthy v))) : ST M W X a (tV ma) := by
  obtain ⟨ta, a1, a2⟩ := ha
  refine ⟨_, pt_val a1 he, fun w fr env G σ H Q rs h => ?_⟩
  refine a2 w fr env G σ H _ rs ((Post.bind h).imp fun x w1 G1 H1 l1 r1 h1 vx dx => ?_)
  obtain ⟨b, e, h4⟩ := asB_post h1 dx
  exact ⟨b, e, Post.here h4 r1⟩
variable {na nb : MT} {rest : List Expr}
theorem sw_and1 (ha : ST M W X a na) : SW M W X (.BoolOp .And [a] pos) na := let ⟨t, h1, h2⟩ := ha; ⟨t, pw_and1 h1, h2⟩
theorem sw_or1 (ha : ST M W X a na) : SW M W X (.BoolOp .Or [a] pos) na := let ⟨t, h1, h2⟩ := ha; ⟨t, pw_or1 h1, h2⟩
theorem sw_and (ha : ST M W X a na) (hb : SW M W X (.BoolOp .And (b :: rest) pos) nb) : SW M W X (.BoolOp .And (a :: b :: rest) pos) (tAnd na nb) := by
  obtain ⟨ta, a1, a2⟩ := ha
  obtain ⟨tb, b1, b2⟩ := hb
  refine ⟨_, pw_and a1 b1, fun w fr env G σ H Q rs h => ?_⟩
  refine a2 w fr env G σ H _ rs ((Post.bind h).imp fun x w1 G1 H1 l1 r1 h1 => ?_)
  cases x with
  | true => exact b2 w1 fr env G1 σ H1 Q r1 h1
  | false => exact Post.here (W := W) (P := PT' Q) (a := false) h1 r1
theorem sw_or (ha : ST M W X a na) (hb : SW M W X (.BoolOp .Or (b :: rest) pos) nb) : SW M W X (.BoolOp .Or (a :: b :: rest) pos) (tOr na nb) := by
  obtain ⟨ta, a1, a2⟩ := ha
  obtain ⟨tb, b1, b2⟩ := hb
  refine ⟨_, pw_or a1 b1, fun w fr env G σ H Q rs h => ?_⟩
  refine a2 w fr env G σ H _ rs ((Post.bind h).imp fun x w1 G1 H1 l1 r1 h1 => ?_)
  cases x with
  | true => exact Post.here (W := W) (P := PT' Q) (a := true) h1 r1
  | false => exact b2 w1 fr env G1 σ H1 Q r1 h1
theorem st_not (ha : ST M W X a na) : ST M W X (.UnaryOp .Not a pos) (tNot na) := by
  obtain ⟨ta, a1, a2⟩ := ha
  refine ⟨_, pt_not a1, fun w fr env G σ H Q rs h => ?_⟩
  exact a2 w fr env G σ H _ rs ((Post.bind h).imp fun x w1 G1 H1 l1 r1 h1 => Post.here (W := W) (P := PT' Q) (a := !x) h1 r1)
theorem se_one {op} (ha : SE M W X a ma) : SE M W X (.BoolOp op [a] pos) ma := let ⟨t, h1, h2⟩ := ha; ⟨t, pe_one h1, h2⟩
theorem se_and (ha : SE M W X a ma) (hb : SE M W X (.BoolOp .And (b :: rest) pos) mb) : SE M W X (.BoolOp .And (a :: b :: rest) pos) (eAnd ma mb) := by
  obtain ⟨ta, a1, a2⟩ := ha
  obtain ⟨tb, b1, b2⟩ := hb
  refine ⟨_, pe_and a1 b1, fun w fr env G σ H Q rs h => ?_⟩
  refine a2 w fr env G σ H _ rs ((Post.bind h).imp fun x w1 G1 H1 l1 r1 h1 vx dx => ?_)
  obtain ⟨b, e, h4⟩ := asB_post h1 dx
  refine ⟨b, e, ?_⟩
  cases b with
  | true => exact b2 w1 fr env G1 σ H1 Q r1 h4
  | false => exact Post.here h4 r1 _ (.bl _)
theorem se_or (ha : SE M W X a ma) (hb : SE M W X (.BoolOp .Or (b :: rest) pos) mb) : SE M W X (.BoolOp .Or (a :: b :: rest) pos) (eOr ma mb) := by
  obtain ⟨ta, a1, a2⟩ := ha
  obtain ⟨tb, b1, b2⟩ := hb
  refine ⟨_, pe_or a1 b1, fun w fr env G σ H Q rs h => ?_⟩
  refine a2 w fr env G σ H _ rs ((Post.bind h).imp fun x w1 G1 H1 l1 r1 h1 vx dx => ?_)
  obtain ⟨b, e, h4⟩ := asB_post h1 dx
  refine ⟨b, e, ?_⟩
  cases b with
  | true => exact Post.here h4 r1 _ (.bl _)
  | false => exact b2 w1 fr env G1 σ H1 Q r1 h4
theorem se_not (ha : SE M W X a ma) : SE M W X (.UnaryOp .Not a pos) (eNot (tV ma)) := by
  obtain ⟨ta, a1, a2⟩ := ha
  refine ⟨_, pe_not a1, fun w fr env G σ H Q rs h => ?_⟩
  have h := Post.bind (Post.bind h)
  refine a2 w fr env G σ H _ rs (h.imp fun x w1 G1 H1 l1 r1 h1 vx dx => ?_)
  obtain ⟨b, e, h4⟩ := asB_post h1 dx
  exact ⟨b, e, Post.here (Post.here h4 r1) r1 _ (.bl _)⟩
theorem se_ife {nc : MT} (hc : ST M W X c nc) (ha : SE M W X a ma) (hb : SE M W X b mb) : SE M W X (.IfExp c a b pos) (eIf nc ma mb) := by
  obtain ⟨ta, a1, a2⟩ := ha
  obtain ⟨tb, b1, b2⟩ := hb
  obtain ⟨tc, c1, c2⟩ := hc
  refine ⟨_, pe_ifExp c1 a1 b1, fun w fr env G σ H Q rs h => ?_⟩
  refine c2 w fr env G σ H _ rs ((Post.bind h).imp fun x w1 G1 H1 l1 r1 h1 => ?_)
  cases x with
  | true => exact a2 w1 fr env G1 σ H1 Q r1 h1
  | false => exact b2 w1 fr env G1 σ H1 Q r1 h1

/-! ### displays -/
variable {es : List Expr} {ml : ML}
theorem sa_nil : SA M W X [] lNil := ⟨_, pa_nil, fun w fr env G σ H Q rs h => Post.here h rs [] .nil⟩
theorem sa_cons (ha : SE M W X a ma) (hr : SA M W X es ml) (hs : starEach (a :: es) X.env = (false, eval a X.env) :: starEach es X.env) : SA M W X (a :: es) (lCons ma ml) := by
  obtain ⟨ta, a1, a2⟩ := ha
  obtain ⟨tb, b1, b2⟩ := hr
  refine ⟨_, pa_cons a1 b1 hs, fun w fr env G σ H Q rs h => ?_⟩
  refine a2 w fr env G σ H _ rs ((Post.bind h).imp fun x w1 G1 H1 l1 r1 h1 vx dx => ?_)
  exact b2 w1 fr env G1 σ H1 _ r1 ((Post.bind h1).imp fun xs w2 G2 H2 l2 r2 h2 vs dvs => Post.here h2 r2 _ (.cons (dx.up l2) dvs))
theorem se_tup {x1} (hl : SA M W X es ml) : SE M W X (.Tuple es x1 pos) (eTup ml) := by
  obtain ⟨tb, b1, b2⟩ := hl
  refine ⟨_, pe_tup b1, fun w fr env G σ H Q rs h => ?_⟩
  refine b2 w fr env G σ H _ rs ((Post.bind h).imp fun xs w1 G1 H1 l1 r1 h1 vs dvs => ?_)
  obtain ⟨hb, h1⟩ := guard_post (α := D) h1
  exact ⟨by rw [← dvs.length]; exact lim_le (of_decide_eq_true hb), fun p hp => post_tup r1 dvs h1 hp⟩
theorem sf_lst (hl : SA M W X es ml) : SF M W X (.List es pos) (fLst ml) := by
  obtain ⟨tb, b1, b2⟩ := hl
  refine ⟨_, pe_lst b1, fun w fr env G σ H Q rs h => ?_⟩
  refine b2 w fr env G σ H _ rs ((Post.bind h).imp fun xs w1 G1 H1 l1 r1 h1 vs dvs => ?_)
  by_cases hb : xs.length ≤ LIM
  · rw [if_pos hb] at h1
    have hz : vs.length ≤ sizeLine := by rw [← dvs.length]; exact lim_le hb
    exact ⟨hz, fun p hp => Post.here h1 r1 vs p dvs hz hp⟩
  · rw [if_neg hb] at h1; exact h1.elim
/-- a new list as a thing that never changes; as a mutable object -/
theorem se_new (h : SF M W X a ml) : SE M W X a (eNew ml) := by
  obtain ⟨ta, a1, a2⟩ := h
  refine ⟨ta, a1, fun w fr env G σ H Q rs h => ?_⟩
  exact a2 w fr env G σ H Q rs ((Post.bind h).imp fun xs w1 G1 H1 l1 r1 h1 vs p dvs hz hp => post_lst r1 dvs h1 hp)
theorem se_alloc (h : SF M W X a ml) : SE M W X a (eAlloc ml) := by
  obtain ⟨ta, a1, a2⟩ := h
  refine ⟨ta, a1, fun w fr env G σ H Q rs h => ?_⟩
  refine a2 w fr env G σ H Q rs ((Post.bind h).imp fun xs w1 G1 H1 l1 r1 h1 vs p dvs hz hp => ?_)
  have l0 : w1.Le ⟨w1.C, w1.ρ ++ [p]⟩ := ⟨fun _ _ e => e, fun n b e => by
    show (w1.ρ ++ [p])[n]? = some b
    rw [List.getElem?_append_left (List.getElem?_eq_some_iff.mp e).1]; exact e⟩
  obtain ⟨l, r'⟩ := r1.newHot (o := .lst xs) (ho := .lst vs) hp (.lst (dvs.up l0))
  refine h1 _ _ l r' _ (.loc ?_)
  have : w1.ρ.length = G1.length := let ⟨_, q, _⟩ := r1; q.len
  show (w1.ρ ++ [p])[G1.length]? = some p
  rw [← this, List.getElem?_append_right (Nat.le_refl _)]
  simp

/-! ### subscripts -/
theorem sub_at {α β : Type} {xs : List α} {ys : List β} (hl : xs.length = ys.length) {i : Int} {x : α} (h : atI xs i = some x) : ∃ j : Nat, xs[j]? = some x ∧ ∀ y, ys[j]? = some y → atI ys i = some y := by
  unfold atI at h ⊢
  cases e : ixN xs.length i with
  | none => rw [e] at h; cases h
  | some j =>
    rw [e] at h
    exact ⟨j, h, fun y hy => by rw [← hl, e]; exact hy⟩
theorem se_sub (g : GX M k X) (ha : SE M W X a ma) (hb : SE M W X b mb) (hs : PlainIx b) : SE M W X (.Subscript a b pos) (eSub ma mb) := by
  obtain ⟨ta, a1, a2⟩ := ha
  obtain ⟨tb, b1, b2⟩ := hb
  refine ⟨_, pe_ix ix_seq a1 b1 hs, fun w fr env G σ H Q rs h => ?_⟩
  refine a2 w fr env G σ H _ rs ((Post.bind h).imp fun x w1 G1 H1 l1 r1 h1 vx dx => ?_)
  refine b2 w1 fr env G1 σ H1 _ r1 ((Post.bind h1).imp fun y w2 G2 H2 l2 r2 h2 vy dy => ?_)
  have dh := DH.of r2 (dx.up l2)
  generalize deref G2 x = x' at *
  cases x' <;> cases dy <;> try exact h2.elim
  · rename_i z i
    rw [dh.str]
    simp only [subD] at h2
    by_cases hz : z.length ≤ LIM
    · rw [if_pos hz] at h2
      cases e : atI z.cps.toList i with
      | none => rw [e] at h2; exact h2.elim
      | some c =>
        rw [e] at h2
        exact .inr (.inr ⟨z, i, c, rfl, rfl, lim_le hz, e, Post.here h2 r2 _ (.str _)⟩)
    · rw [if_neg hz] at h2; exact h2.elim
  · rename_i xs i
    obtain ⟨p, vs, rfl, hs, hd⟩ := dh.tup
    simp only [subD] at h2
    cases e : atI xs i with
    | none => rw [e] at h2; exact h2.elim
    | some d =>
      rw [e] at h2
      obtain ⟨j, h3, h4⟩ := sub_at hd.length e
      obtain ⟨v, h5, h6⟩ := hd.get h3
      have hs' := SqT.mono r2.cold hs
      rw [← g.K] at hs'
      exact .inr (.inl ⟨p, vs, i, v, rfl, rfl, hs', h4 v h5, Post.here h2 r2 _ h6⟩)
  · rename_i xs i
    obtain ⟨p, vs, rfl, hs, hd⟩ := dh.list
    simp only [subD] at h2
    cases e : atI xs i with
    | none => rw [e] at h2; exact h2.elim
    | some d =>
      rw [e] at h2
      obtain ⟨j, h3, h4⟩ := sub_at hd.length e
      obtain ⟨v, h5, h6⟩ := hd.get h3
      exact .inl ⟨p, vs, i, v, rfl, rfl, .inl (.inl hs), h4 v h5, Post.here h2 r2 _ h6⟩
  · rename_i ns i
    obtain ⟨p, rfl, hs⟩ := dh.arr
    simp only [subD] at h2
    cases e : atI ns i with
    | none => rw [e] at h2; exact h2.elim
    | some n =>
      rw [e] at h2
      obtain ⟨j, h3, h4⟩ := sub_at (ys := ns.map V.int) (by simp) e
      have hs' := SqL.mono r2.cold hs
      rw [← g.K] at hs'
      exact .inl ⟨p, _, i, .int n, rfl, rfl, hs', h4 _ (by rw [List.getElem?_map, h3]; rfl), Post.here h2 r2 _ (.int _)⟩
end
end GL
/-! GL part 6: statements, targets, loops. -/
namespace GL
open PySem L2

inductive SR where
  | nx (env : Env') (g : Gh) | rt (d : D) (g : Gh) | bk (env : Env') (g : Gh) | ct (env : Env') (g : Gh) | exc (x : Xv) (g : Gh) | bad
abbrev MS := Env' → Gh → SR
def R.bindS {α : Type} : R α → (α → Gh → SR) → SR
  | .ok a g, f => f a g
  | .exc x g, _ => .exc x g
  | .bad, _ => .bad
@[simp] theorem R.bindS_ok {α : Type} (a : α) (g : Gh) (f : α → Gh → SR) : (R.ok a g).bindS f = f a g := rfl
@[simp] theorem R.bindS_bad {α : Type} (f : α → Gh → SR) : (R.bad : R α).bindS f = .bad := rfl
@[simp] theorem R.bindS_exc {α : Type} (x : Xv) (g : Gh) (f : α → Gh → SR) : (R.exc x g : R α).bindS f = .exc x g := rfl

def PostS (M : Im) (W : XW) (fr : List (Addr × HO)) (w : Wd) (D : Ends) : SR → Prop
  | .nx env' G' => ∀ w' σ' H', w.Le w' → RS M w' fr env' G' σ' H' → D.nx σ' H'
  | .rt d G' => ∀ w' v H', w.Le w' → RG M w' fr G' H' → DV M w' d v → D.rt v H'
  | .bk env' G' => ∀ w' σ' H', w.Le w' → RS M w' fr env' G' σ' H' → D.bk σ' H'
  | .ct env' G' => ∀ w' σ' H', w.Le w' → RS M w' fr env' G' σ' H' → D.ct σ' H'
  | .exc x G' => ∀ w' H', w.Le w' → RG M w' fr G' H' → W x w' G' H'
  | .bad => False
section
variable {M : Im} {W : XW} {fr : List (Addr × HO)} {w w1 : Wd} {D : Ends}
theorem PostS.up {r : SR} (h : PostS M W fr w D r) (l : w.Le w1) : PostS M W fr w1 D r := by
  cases r with
  | nx env G => exact fun w' σ' H' l' r' => h w' σ' H' (l.trans l') r'
  | rt d G => exact fun w' v H' l' r' => h w' v H' (l.trans l') r'
  | bk env G => exact fun w' σ' H' l' r' => h w' σ' H' (l.trans l') r'
  | ct env G => exact fun w' σ' H' l' r' => h w' σ' H' (l.trans l') r'
  | exc x G => exact fun w' H' l' r' => h w' H' (l.trans l') r'
  | bad => exact h
theorem PostS.bind {α : Type} {env : Env'} {σ : L2.St} {r : R α} {f : α → Gh → SR} (h : PostS M W fr w D (r.bindS f)) : Post M W fr env σ w (fun a w1 G1 H1 => PostS M W fr w1 D (f a G1)) r := by
  cases r with
  | ok a G => exact fun w' H' l' r' => PostS.up h l'
  | exc x G => exact h
  | bad => exact h
end
theorem RS.rg {M : Im} {w : Wd} {fr : List (Addr × HO)} {env : Env'} {G : Gh} {σ : L2.St} {H : Hp} (r : RS M w fr env G σ H) : RG M w fr G H := by
  obtain ⟨os, g, _⟩ := r
  exact g.less (List.sublist_append_right _ _)

def SS (M : Im) (W : XW) (X : Cx) (st : Stmt) (m : MS) : Prop := ∃ t, PS X st t ∧ ∀ w fr env G σ H D, RS M w fr env G σ H → PostS M W fr w D (m env G) → t D σ H
def SSs (M : Im) (W : XW) (X : Cx) (st : List Stmt) (m : MS) : Prop := ∃ t, PSs X st t ∧ ∀ w fr env G σ H D, RS M w fr env G σ H → PostS M W fr w D (m env G) → t D σ H

def sSkip : MS := fun env g => .nx env g
def SR.seq : SR → MS → SR
  | .nx env g, f => f env g
  | r, _ => r
@[simp] theorem SR.seq_nx (env : Env') (g : Gh) (f : MS) : (SR.nx env g).seq f = f env g := rfl
@[simp] theorem SR.seq_rt (d : D) (g : Gh) (f : MS) : (SR.rt d g).seq f = .rt d g := rfl
@[simp] theorem SR.seq_bad (f : MS) : (SR.bad).seq f = .bad := rfl
def sSeq (a b : MS) : MS := fun env g => (a env g).seq b
def sIf (c : MT) (a b : MS) : MS := fun env g => (c env g).bindS fun k g1 => if k then a env g1 else b env g1
def sRet (a : ME) : MS := fun env g => (a env g).bindS fun d g1 => .rt d g1
def sRetN : MS := fun env g => .rt .non g
def sBreak : MS := fun env g => .bk env g
def sCont : MS := fun env g => .ct env g
def sDrop (a : ME) : MS := fun env g => (a env g).bindS fun _ g1 => .nx env g1
def sSet (i : Nat) (a : ME) : MS := fun env g => (a env g).bindS fun d g1 => .nx (env.set i (.val d)) g1
def sSetOwn (i : Nat) (l : ML) : MS := fun env g => (l env g).bindS fun xs g1 => if i < env.length then .nx (env.set i (.own xs)) g1 else .bad
noncomputable def sAug (i : Nat) (op : Operator) (a : ME) : MS := fun env g => (eLv i env g).bindS fun x g1 => (a env g1).bindS fun y g2 => (binop op x y g2).bindS fun z g3 => .nx (env.set i (.val z)) g3
/-- what the frame kept to itself in slot i never changes from now on -/
def sFreeze (i : Nat) (a : MS) : MS := fun env g => match env[i]? with
  | some (.own xs) => a (env.set i (.val (.lst xs))) g
  | _ => .bad

section
variable {M : Im} {W : XW} {X : Cx} {k : Nat} {st : Stmt} {rest : List Stmt} {s1 s2 : MS} {a b c : Expr} {ma mb : ME} {na : MT} {pos : Pos}
theorem ss_nil : SSs M W X [] sSkip := ⟨_, pss_nil, fun w fr env G σ H D r h => h w σ H (Wd.Le.refl w) r⟩
theorem ss_cons (h1 : SS M W X st s1) (h2 : SSs M W X rest s2) : SSs M W X (st :: rest) (sSeq s1 s2) := by
  obtain ⟨t, a1, a2⟩ := h1
  obtain ⟨u, b1, b2⟩ := h2
  refine ⟨_, pss_cons a1 b1, fun w fr env G σ H D r h => ?_⟩
  refine a2 w fr env G σ H _ r ?_
  unfold sSeq at h
  cases e : s1 env G with
  | nx env' G' =>
    rw [e] at h
    exact fun w' σ' H' l r' => b2 w' fr env' G' σ' H' D r' (PostS.up h l)
  | rt d G' => rw [e] at h; exact h
  | bk d G' => rw [e] at h; exact h
  | ct d G' => rw [e] at h; exact h
  | exc d G' => rw [e] at h; exact h
  | bad => rw [e] at h; exact h
theorem ss_one (h1 : SS M W X st s1) : SSs M W X [st] s1 := let ⟨t, a1, a2⟩ := h1; ⟨t, pss_one a1, a2⟩
/-- a list of the frame's own is frozen ahead of a block -/
theorem ss_freeze {i : Nat} {sts : List Stmt} (h : SSs M W X sts s1) : SSs M W X sts (sFreeze i s1) := by
  obtain ⟨t, a1, a2⟩ := h
  refine ⟨t, a1, fun w fr env G σ H D r h => ?_⟩
  unfold sFreeze at h
  cases e : env[i]? with
  | none => rw [e] at h; exact h.elim
  | some s =>
    rw [e] at h
    cases s with
    | un => exact h.elim
    | val d => exact h.elim
    | own xs =>
      obtain ⟨os, g, sl⟩ := r
      obtain ⟨p, vs, f1, f2, rfl, q1, q2, q3, q4⟩ := sl.getOwn e
      have g' : RG M w ((p, .lst vs) :: (f1 ++ f2 ++ fr)) G H := g.perm (by
        rw [List.append_assoc, List.cons_append, List.append_assoc]
        exact List.perm_middle)
      obtain ⟨l, g2⟩ := g'.freeze
      exact a2 _ fr _ G σ H D ⟨f1 ++ f2, g2, q4 _ _ l (.lst upd_same (q2.up l))⟩ (PostS.up h l)
theorem ss_pass : SS M W X (.Pass pos) sSkip := ⟨_, ps_pass, fun w fr env G σ H D r h => h w σ H (Wd.Le.refl w) r⟩
theorem ss_break : SS M W X (.Break pos) sBreak := ⟨_, ps_break, fun w fr env G σ H D r h => h w σ H (Wd.Le.refl w) r⟩
theorem ss_continue : SS M W X (.Continue pos) sCont := ⟨_, ps_continue, fun w fr env G σ H D r h => h w σ H (Wd.Le.refl w) r⟩
theorem ss_expr (ha : SE M W X a ma) (hs : swapsWith a none pos.line X.env = pure false) : SS M W X (.Expr a pos) (sDrop ma) := by
  obtain ⟨t, a1, a2⟩ := ha
  refine ⟨_, ps_expr a1 hs, fun w fr env G σ H D r h => ?_⟩
  exact a2 w fr env G σ H _ r ((PostS.bind h).imp fun d w1 G1 H1 l1 r1 h1 v dv => h1 w1 σ H1 (Wd.Le.refl w1) r1)
theorem ss_ret (ha : SE M W X a ma) : SS M W X (.Return (some a) pos) (sRet ma) := by
  obtain ⟨t, a1, a2⟩ := ha
  refine ⟨_, ps_ret a1, fun w fr env G σ H D r h => ?_⟩
  exact a2 w fr env G σ H _ r ((PostS.bind h).imp fun d w1 G1 H1 l1 r1 h1 v dv => h1 w1 v H1 (Wd.Le.refl w1) r1.rg dv)
theorem ss_retN : SS M W X (.Return none pos) sRetN := ⟨_, ps_retN, fun w fr env G σ H D r h => h w .non H (Wd.Le.refl w) r.rg .non⟩
theorem ss_if {xs ys : List Stmt} (hc : ST M W X c na) (ha : SSs M W X xs s1) (hb : SSs M W X ys s2) : SS M W X (.If c xs ys pos) (sIf na s1 s2) := by
  obtain ⟨tc, c1, c2⟩ := hc
  obtain ⟨t, a1, a2⟩ := ha
  obtain ⟨u, b1, b2⟩ := hb
  refine ⟨_, ps_if c1 a1 b1, fun w fr env G σ H D r h => ?_⟩
  refine c2 w fr env G σ H _ r ((PostS.bind h).imp fun x w1 G1 H1 l1 r1 h1 => ?_)
  cases x with
  | true => exact a2 w1 fr env G1 σ H1 D r1 h1
  | false => exact b2 w1 fr env G1 σ H1 D r1 h1
/-- code that is never come to -/
def sNever : MS := fun _ _ => .bad
theorem ss_never : SS M W X st sNever := ⟨_, ps_never, fun w fr env G σ H D r h => h⟩
theorem sss_never {sts : List Stmt} : SSs M W X sts sNever := ⟨_, pss_never, fun w fr env G σ H D r h => h⟩
theorem ss_set (g : GX M k X) {i : Nat} {x : Str} {pos' : Pos} (hi : X.N[i]? = some x) (hx : Loc X.env.scope x) (ha : SE M W X a ma) (hs : swapsWith a (some (.Name x pos')) pos.line X.env = pure false) (hf : X.fn x = true ∨ X.env.scope.names.lookup x = some .local) :
    SS M W X (.Assign [.Name x pos'] a pos) (sSet i ma) := by
  obtain ⟨t, a1, a2⟩ := ha
  refine ⟨_, ps_set g.nd hi hx a1 hs hf, fun w fr env G σ H D r h => ?_⟩
  exact a2 w fr env G σ H _ r ((PostS.bind h).imp fun d w1 G1 H1 l1 r1 h1 v dv => h1 w1 _ H1 (Wd.Le.refl w1) (r1.setVal i dv))
theorem ss_setOwn (g : GX M k X) {i : Nat} {x : Str} {pos' : Pos} {ml : ML} (hi : X.N[i]? = some x) (hx : Loc X.env.scope x) (ha : SF M W X a ml) (hs : swapsWith a (some (.Name x pos')) pos.line X.env = pure false) (hf : X.fn x = true ∨ X.env.scope.names.lookup x = some .local) :
    SS M W X (.Assign [.Name x pos'] a pos) (sSetOwn i ml) := by
  obtain ⟨t, a1, a2⟩ := ha
  refine ⟨_, ps_set g.nd hi hx a1 hs hf, fun w fr env G σ H D r h => ?_⟩
  refine a2 w fr env G σ H _ r ((PostS.bind h).imp fun xs w1 G1 H1 l1 r1 h1 vs p dvs hz hp => ?_)
  by_cases hl : i < env.length
  · rw [if_pos hl] at h1
    obtain ⟨os, g1, sl⟩ := r1
    obtain ⟨o1, o2, q1, q2, q3⟩ := sl.setOwn (a := p) dvs i hl
    refine h1 w1 _ _ (Wd.Le.refl w1) ⟨o2, ?_, q3⟩
    have g2 := (g1.less (q1.append (List.Sublist.refl fr))).newFr (o := .lst vs) hp
    exact g2.perm (q2.append_right fr)
  · rw [if_neg hl] at h1; exact h1.elim
theorem ss_aug (g : GX M k X) {i : Nat} {x : Str} {pos' : Pos} {op : Operator} (hi : X.N[i]? = some x) (hx : Loc X.env.scope x) (ha : SE M W X a ma) (ho : OpOk M W X (inplaceOp op) (binop op)) (hf : X.fn x = true ∨ X.env.scope.names.lookup x = some .local) :
    SS M W X (.AugAssign (.Name x pos') op a pos) (sAug i op ma) := by
  obtain ⟨t, a1, a2⟩ := ha
  obtain ⟨r, o1, o2⟩ := ho
  refine ⟨_, ps_aug g.nd hi hx a1 (ti := r) (fun pins s σ H x y v u Q I rx ry q => o1 pins s σ H x y v u Q I rx ry q) hf, fun w fr env G σ H D rs h => ?_⟩
  unfold sAug eLv at h
  cases e : env[i]? with
  | none => rw [e] at h; exact h.elim
  | some s =>
    rw [e] at h
    cases s with
    | un => exact h.elim
    | own xs => exact h.elim
    | val d =>
      obtain ⟨v, h1, h2⟩ := rs.get e
      refine ⟨v, h1, ?_⟩
      refine a2 w fr env G σ H _ rs ((PostS.bind (R.bindS_ok d G _ ▸ h)).imp fun y w1 G1 H1 l1 r1 h1 vy dy => ?_)
      exact o2 w1 fr env G1 σ H1 _ d y v vy r1 (h2.up l1) dy ((PostS.bind h1).imp fun z w2 G2 H2 l2 r2 h3 vz dz => h3 w2 _ H2 (Wd.Le.refl w2) (r2.setVal i dz))
theorem iop_add_ok (g : GX M k X) : OpOk M W X (inplaceOp .Add) (fun x y h => match x, y with | .int i, .int j => .ok (.int (i + j)) h | _, _ => .bad) := by
  refine ⟨_, iop_add, fun w fr env G σ H Q x y vx vy r hx hy h => ?_⟩
  cases hx <;> cases hy <;> try exact h.elim
  exact ⟨_, _, rfl, rfl, Post.here h r _ (.int _)⟩

/-! ### targets -/
abbrev MG := D → Env' → Option Env'
/-- the slots that may have changed: ts -/
def Ag (ts : List Nat) (σ σ' : L2.St) : Prop := σ'.length = σ.length ∧ ∀ i : Nat, i ∉ ts → σ'[i]? = σ[i]?
theorem Ag.refl (σ : L2.St) : Ag [] σ σ := ⟨rfl, fun _ _ => rfl⟩
theorem Ag.trans {ts us : List Nat} {a b c : L2.St} (x : Ag ts a b) (y : Ag us b c) : Ag (ts ++ us) a c :=
  ⟨y.1.trans x.1, fun i hi => (y.2 i (fun h => hi (List.mem_append_right _ h))).trans (x.2 i (fun h => hi (List.mem_append_left _ h)))⟩
theorem Ag.set {i : Nat} {v : Option V} (σ : L2.St) : Ag [i] σ (σ.set i v) := ⟨by simp, fun j hj => List.getElem?_set_ne (fun e => hj (by simp [e]))⟩
def PostG (M : Im) (fr : List (Addr × HO)) (w : Wd) (G : Gh) (σ : L2.St) (ts : List Nat) (Q : L2.St → Hp → Prop) : Option Env' → Prop
  | some env' => ∀ w' σ' H', w.Le w' → RS M w' fr env' G σ' H' → Ag ts σ σ' → Q σ' H'
  | none => False
theorem PostG.up {w w1 : Wd} {fr : List (Addr × HO)} {G : Gh} {σ : L2.St} {ts : List Nat} {Q : L2.St → Hp → Prop} {o : Option Env'} (h : PostG M fr w G σ ts Q o) (l : w.Le w1) : PostG M fr w1 G σ ts Q o := by
  cases o with
  | none => exact h
  | some e => exact fun w' σ' H' l' r' => h w' σ' H' (l.trans l') r'
def SG (M : Im) (X : Cx) (tg : Expr) (ts : List Nat) (m : MG) : Prop := ∃ t, PG X tg t ∧ ∀ w fr env G σ H Q d v, RS M w fr env G σ H → DV M w d v → PostG M fr w G σ ts Q (m d env) → t v σ H Q
abbrev MGs := List D → Env' → Option Env'
def SGs (M : Im) (X : Cx) (tgs : List Expr) (ts : List Nat) (m : MGs) : Prop := ∃ t, PGs X tgs t ∧ ∀ w fr env G σ H Q ds vs, RS M w fr env G σ H → DVs M w ds vs → PostG M fr w G σ ts Q (m ds env) → t vs σ H Q
def gNm (i : Nat) : MG := fun d env => some (env.set i (.val d))
def gsNil : MGs := fun ds env => match ds with | [] => some env | _ => none
def gsCons (a : MG) (b : MGs) : MGs := fun ds env => match ds with
  | [] => none
  | d :: ds => (a d env).bind fun env1 => b ds env1
def gTp (n : Nat) (b : MGs) : MG := fun d env => match d with
  | .tup xs => if xs.length = n then b xs env else none
  | _ => none
theorem sg_name (g : GX M k X) {i : Nat} {x : Str} (hi : X.N[i]? = some x) (hx : Loc X.env.scope x) (hf : X.fn x = true ∨ X.env.scope.names.lookup x = some .local) : SG M X (.Name x pos) [i] (gNm i) :=
  ⟨_, pg_name g.nd hi hx hf, fun w fr env G σ H Q d v r hd h => h w _ H (Wd.Le.refl w) (r.setVal i hd) (Ag.set σ)⟩
theorem sgs_nil : SGs M X [] [] gsNil := by
  refine ⟨_, pgs_nil, fun w fr env G σ H Q ds vs r hd h => ?_⟩
  cases hd with
  | nil => exact ⟨rfl, h w σ H (Wd.Le.refl w) r (Ag.refl σ)⟩
  | cons _ _ => exact h.elim
theorem sgs_cons {e : Expr} {es : List Expr} {m1 : MG} {m2 : MGs} {ts us : List Nat} (h1 : SG M X e ts m1) (h2 : SGs M X es us m2) (hs : (assignEach (e :: es) X.env).map (·.2) = assign e X.env :: (assignEach es X.env).map (·.2)) : SGs M X (e :: es) (ts ++ us) (gsCons m1 m2) := by
  obtain ⟨t, a1, a2⟩ := h1
  obtain ⟨u, b1, b2⟩ := h2
  refine ⟨_, pgs_cons a1 b1 hs, fun w fr env G σ H Q ds vs r hd h => ?_⟩
  cases hd with
  | nil => exact h.elim
  | cons hd hds =>
    rename_i d v ds vs
    refine ⟨v, vs, rfl, a2 w fr env G σ H _ d v r hd ?_⟩
    have h : PostG M fr w G σ (ts ++ us) Q ((m1 d env).bind fun env1 => m2 ds env1) := h
    cases e : m1 d env with
    | none => rw [e] at h; exact h.elim
    | some env1 =>
      rw [e] at h
      have h : PostG M fr w G σ (ts ++ us) Q (m2 ds env1) := h
      intro w' σ' H' l r' ag
      refine b2 w' fr env1 G σ' H' Q ds vs r' (hds.up l) ?_
      cases e2 : m2 ds env1 with
      | none => rw [e2] at h; exact h.elim
      | some env2 =>
        rw [e2] at h
        exact fun w2 σ2 H2 l2 r2 ag2 => h w2 σ2 H2 (l.trans l2) r2 (ag.trans ag2)
theorem sg_tup (g : GX M k X) {es : List Expr} {kk n : Nat} {m : MGs} {ts : List Nat} (h : SGs M X es ts m) (hn : (assignEach es X.env).length = n) (hst : (assignEach es X.env).findIdx? (·.1) = none) : SG M X (.Tuple es kk pos) ts (gTp n m) := by
  obtain ⟨t, a1, a2⟩ := h
  refine ⟨_, pg_tup g.calm a1 hn hst, fun w fr env G σ H Q d v r hd h => ?_⟩
  cases hd <;> try exact h.elim
  rename_i a vs xs hs hd
  by_cases hl : xs.length = n
  · have h : PostG M fr w G σ ts Q (if xs.length = n then m xs env else none) := h
    rw [if_pos hl] at h
    have hs' := SqT.mono r.cold hs
    rw [← g.K] at hs'
    exact ⟨a, vs, rfl, hs', by rw [← hd.length]; exact hl, a2 w fr env G σ H Q xs vs r hd h⟩
  · have h : PostG M fr w G σ ts Q (if xs.length = n then m xs env else none) := h
    rw [if_neg hl] at h; exact h.elim
def optS (o : Option Env') (g : Gh) : SR := match o with
  | some env => .nx env g
  | none => .bad
def sAsg (a : ME) (tg : MG) : MS := fun env g => (a env g).bindS fun d g1 => optS (tg d env) g1
theorem ss_asg {tg : Expr} {mg : MG} {ts : List Nat} (ha : SE M W X a ma) (hg : SG M X tg ts mg) (hs : swapsWithSole [tg] a pos.line X.env = pure false) (hw : swappedStores [tg] a X.env = pure none) (h1 : (assignEach [tg] X.env).map (·.2) = [assign tg X.env]) :
    SS M W X (.Assign [tg] a pos) (sAsg ma mg) := by
  obtain ⟨t, a1, a2⟩ := ha
  obtain ⟨u, b1, b2⟩ := hg
  refine ⟨_, ps_asg a1 b1 hs hw h1, fun w fr env G σ H D r h => ?_⟩
  refine a2 w fr env G σ H _ r ((PostS.bind h).imp fun d w1 G1 H1 l1 r1 h1 v dv => ?_)
  refine b2 w1 fr env G1 σ H1 _ d v r1 dv ?_
  cases e : mg d env with
  | none => rw [e] at h1; exact h1.elim
  | some env1 => rw [e] at h1; exact fun w' σ' H' l r' _ => h1 w' σ' H' l r'
/-- a, b = x, y with plain local names -/
def sPar (i j : Nat) (l : ML) : MS := fun env g => (l env g).bindS fun ds g1 => match ds with
  | [x, y] => .nx ((env.set i (.val x)).set j (.val y)) g1
  | _ => .bad
theorem ss_par (g : GX M k X) {i j : Nat} {x y : Str} {ml : ML} {px py pt : Pos} {kt k2 pt2} (hi : X.N[i]? = some x) (hj : X.N[j]? = some y) (hij : i ≠ j)
    (hx : X.env.scope.names.lookup x = some .local) (hy : X.env.scope.names.lookup y = some .local) (ha : SA M W X [a, b] ml)
    (hw : swappedStores [.Tuple [.Name x px, .Name y py] kt pt] (.Tuple [a, b] k2 pt2) X.env = pure (some [x, y]))
    (hs : swapsWithSole [.Tuple [.Name x px, .Name y py] kt pt] (.Tuple [a, b] k2 pt2) pos.line X.env = pure false) :
    SS M W X (.Assign [.Tuple [.Name x px, .Name y py] kt pt] (.Tuple [a, b] k2 pt2) pos) (sPar i j ml) := by
  obtain ⟨t, a1, a2⟩ := ha
  refine ⟨_, ps_par g.calm g.nd hi hj hij hx hy a1 hw hs, fun w fr env G σ H D r h => ?_⟩
  refine a2 w fr env G σ H _ r ((PostS.bind h).imp fun ds w1 G1 H1 l1 r1 h1 vs dvs => ?_)
  cases dvs with
  | nil => exact h1.elim
  | cons p q =>
    cases q with
    | nil => exact h1.elim
    | cons p' q' =>
      cases q' with
      | cons _ _ => exact h1.elim
      | nil => exact ⟨_, _, rfl, h1 w1 _ H1 (Wd.Le.refl w1) ((r1.setVal i p).setVal j p')⟩

/-! ### while -/
/-- at most n turns -/
def wh (c : MT) (b : MS) : Nat → MS
  | 0 => fun _ _ => .bad
  | n + 1 => fun env g => (c env g).bindS fun k g1 => if k then (match b env g1 with
      | .nx env' g2 => wh c b n env' g2
      | .ct env' g2 => wh c b n env' g2
      | .bk env' g2 => .nx env' g2
      | r => r) else .nx env g1
open Classical in
noncomputable def sWhile (c : MT) (b : MS) : MS := fun env g => if h : ∃ n, wh c b n env g ≠ .bad then wh c b (Classical.choose h) env g else .bad
theorem wh_mono {c : MT} {b : MS} : ∀ {n m : Nat} {env : Env'} {g : Gh}, n ≤ m → wh c b n env g ≠ .bad → wh c b m env g = wh c b n env g
  | 0, _, _, _, _, h => absurd rfl h
  | n + 1, 0, _, _, hl, _ => by omega
  | n + 1, m + 1, env, g, hl, h => by
    unfold wh at h ⊢
    cases e : c env g with
    | bad => rfl
    | exc x g1 => rfl
    | ok k g1 =>
      rw [e] at h
      cases k with
      | false => rfl
      | true =>
        simp only [R.bindS_ok, if_true] at h ⊢
        cases e2 : b env g1 with
        | nx env' g2 => rw [e2] at h; exact wh_mono (by omega) h
        | ct env' g2 => rw [e2] at h; exact wh_mono (by omega) h
        | bk env' g2 => rfl
        | rt d g2 => rfl
        | exc d g2 => rfl
        | bad => rfl
theorem sWhile_of {c : MT} {b : MS} {n : Nat} {env : Env'} {g : Gh} (h : wh c b n env g ≠ .bad) : sWhile c b env g = wh c b n env g := by
  have hx : ∃ n, wh c b n env g ≠ .bad := ⟨n, h⟩
  unfold sWhile
  rw [dif_pos hx]
  by_cases hl : n ≤ Classical.choose hx
  · exact wh_mono hl h
  · exact (wh_mono (by omega) (Classical.choose_spec hx)).symm
theorem sWhile_eq (c : MT) (b : MS) (env : Env') (g : Gh) : sWhile c b env g = (c env g).bindS fun k g1 => if k then (match b env g1 with
      | .nx env' g2 => sWhile c b env' g2
      | .ct env' g2 => sWhile c b env' g2
      | .bk env' g2 => .nx env' g2
      | r => r) else .nx env g1 := by
  have key : ∀ (env' : Env') (g' : Gh) (n : Nat), wh c b n env' g' = .bad → (∀ m, wh c b m env' g' = .bad) → sWhile c b env' g' = .bad := fun env' g' n _ h => by
    unfold sWhile
    rw [dif_neg]
    rintro ⟨m, hm⟩
    exact hm (h m)
  have one : ∀ n, wh c b (n + 1) env g = (c env g).bindS fun k g1 => if k then (match b env g1 with
      | .nx env' g2 => wh c b n env' g2
      | .ct env' g2 => wh c b n env' g2
      | .bk env' g2 => .nx env' g2
      | r => r) else .nx env g1 := fun n => rfl
  by_cases hx : ∃ n, wh c b n env g ≠ .bad
  · obtain ⟨n, hn⟩ := hx
    cases n with
    | zero => exact absurd rfl hn
    | succ n =>
      rw [sWhile_of hn, one]
      rw [one] at hn
      cases e : c env g with
      | bad => rfl
      | exc x g1 => rfl
      | ok k g1 =>
        rw [e] at hn
        cases k with
        | false => rfl
        | true =>
          simp only [R.bindS_ok, if_true] at hn ⊢
          cases e2 : b env g1 with
          | nx env' g2 => rw [e2] at hn; exact (sWhile_of hn).symm
          | ct env' g2 => rw [e2] at hn; exact (sWhile_of hn).symm
          | bk env' g2 => rfl
          | rt d g2 => rfl
          | exc d g2 => rfl
          | bad => rfl
  · have all : ∀ n, wh c b n env g = .bad := fun n => Classical.byContradiction fun q => hx ⟨n, q⟩
    rw [key env g 0 rfl all]
    cases e : c env g with
    | bad => rfl
    | exc x g1 => have := all 1; rw [one, e] at this; cases this
    | ok k g1 =>
      cases k with
      | false => have := all 1; rw [one, e] at this; cases this
      | true =>
        simp only [R.bindS_ok, if_true]
        cases e2 : b env g1 with
        | nx env' g2 => exact (key env' g2 0 rfl fun m => by have := all (m + 1); rw [one, e] at this; simpa only [R.bindS_ok, if_true, e2] using this).symm
        | ct env' g2 => exact (key env' g2 0 rfl fun m => by have := all (m + 1); rw [one, e] at this; simpa only [R.bindS_ok, if_true, e2] using this).symm
        | bk env' g2 => have := all 1; rw [one, e] at this; simp only [R.bindS_ok, if_true, e2] at this; cases this
        | rt d g2 => have := all 1; rw [one, e] at this; simp only [R.bindS_ok, if_true, e2] at this; cases this
        | exc d g2 => have := all 1; rw [one, e] at this; simp only [R.bindS_ok, if_true, e2] at this; cases this
        | bad => rfl
theorem ss_while {body : List Stmt} (hp : PassesOwn (model X.prog X.w) X.A X.env X.xe) (hc : ST M W X c na) (hb : SSs M W X body s1) : SS M W X (.While c body [] pos) (sWhile na s1) := by
  obtain ⟨tc, c1, c2⟩ := hc
  obtain ⟨t, b1, b2⟩ := hb
  refine ⟨_, ps_while hp c1 b1, fun w fr env G σ H D r h => ?_⟩
  have hx : ∃ n, PostS M W fr w D (wh na s1 n env G) := by
    unfold sWhile at h
    by_cases hx : ∃ n, wh na s1 n env G ≠ .bad
    · rw [dif_pos hx] at h; exact ⟨_, h⟩
    · rw [dif_neg hx] at h; exact h.elim
  obtain ⟨n, hn⟩ := hx
  refine ⟨fun m σ' H' => ∃ w' env' G', RS M w' fr env' G' σ' H' ∧ PostS M W fr w' D (wh na s1 m env' G'), ⟨n, w, env, G, r, hn⟩, ?_⟩
  rintro m σ' H' ⟨w', env', G', r', h'⟩
  cases m with
  | zero => exact h'.elim
  | succ m =>
    refine c2 w' fr env' G' σ' H' _ r' ((PostS.bind h').imp fun x w1 G1 H1 l1 r1 h1 => ?_)
    cases x with
    | false => exact h1 w1 σ' H1 (Wd.Le.refl w1) r1
    | true =>
      show ∃ N : L2.St → Hp → Prop, _
      refine ⟨fun σ2 H2 => ∃ w2 env2 G2, RS M w2 fr env2 G2 σ2 H2 ∧ PostS M W fr w2 D (wh na s1 m env2 G2), fun σ2 H2 q => ⟨m, Nat.lt_succ_self _, q⟩, ?_⟩
      refine b2 w1 fr env' G1 σ' H1 _ r1 ?_
      simp only [if_true] at h1
      cases e : s1 env' G1 with
      | nx env2 G2 => rw [e] at h1; exact fun w2 σ2 H2 l2 r2 => ⟨w2, env2, G2, r2, PostS.up h1 l2⟩
      | ct env2 G2 => rw [e] at h1; exact fun w2 σ2 H2 l2 r2 => ⟨w2, env2, G2, r2, PostS.up h1 l2⟩
      | bk env2 G2 => rw [e] at h1; exact h1
      | rt d G2 => rw [e] at h1; exact h1
      | exc d G2 => rw [e] at h1; exact h1
      | bad => rw [e] at h1; exact h1

/-! ### for -/
abbrev Gd := Option (Nat × List D)
def gdOk : Gd → Gh → Prop
  | none, _ => True
  | some (n, xs), g => g[n]? = some (.lst xs)
abbrev MI := Env' → Gh → R (List D × Gd)
/-- what an iterator J yields, while what it walks stands: ds -/
structure ItOk (M : Im) (w0 : Wd) (gd : Gd) (J : It) (ds : List D) : Prop where
  go : ∀ i w fr env G σ H, w0.Le w → RS M w fr env G σ H → gdOk gd G → i < ds.length → J.go i H
  yld : ∀ i w fr env G σ H x H' d, w0.Le w → RS M w fr env G σ H → gdOk gd G → ds[i]? = some d → J.yld i H x H' → ∃ w', w.Le w' ∧ RS M w' fr env G σ H' ∧ DV M w' d x
  stop : ∀ w fr env G σ H, w0.Le w → RS M w fr env G σ H → gdOk gd G → J.stop ds.length H
def SI (M : Im) (W : XW) (X : Cx) (tg it : Expr) (m : MI) : Prop := ∃ wi, PI X tg it wi ∧ ∀ w fr env G σ H Q, RS M w fr env G σ H →
  Post M W fr env σ w (fun p w' G' H' => ∀ J, ItOk M w' p.2 J p.1 → gdOk p.2 G' → Q J H') (m env G) → wi σ H Q
open Classical in
noncomputable def forL (gd : Gd) (tg : MG) (b : MS) : List D → MS
  | [] => fun env g => if gdOk gd g then .nx env g else .bad
  | d :: ds => fun env g => if gdOk gd g then (match tg d env with
      | none => .bad
      | some env1 => match b env1 g with
        | .nx env2 g2 => forL gd tg b ds env2 g2
        | .ct env2 g2 => forL gd tg b ds env2 g2
        | .bk env2 g2 => .nx env2 g2
        | r => r) else .bad
noncomputable def sFor (it : MI) (tg : MG) (b : MS) : MS := fun env g => (it env g).bindS fun p g1 => forL p.2 tg b p.1 env g1
theorem ss_for (g : GX M k X) {tg it : Expr} {body : List Stmt} {mi : MI} {mg : MG} {ts : List Nat} (hp : PassesOwn (model X.prog X.w) X.A X.env X.xe) (hi : SI M W X tg it mi) (hg : SG M X tg ts mg) (hb : SSs M W X body s1) (hs : ∀ x, foldedSetIterable it X.env x = pure x) :
    SS M W X (.For tg it body [] pos) (sFor mi mg s1) := by
  obtain ⟨wi, i1, i2⟩ := hi
  obtain ⟨tg', g1, g2⟩ := hg
  obtain ⟨t, b1, b2⟩ := hb
  refine ⟨_, ps_for hp g.calm i1 g1 b1 hs, fun w fr env G σ H D r h => ?_⟩
  refine i2 w fr env G σ H _ r ((PostS.bind h).imp fun p w1 G1 H1 l1 r1 h1 J jo gok => ?_)
  obtain ⟨ds, gd⟩ := p
  refine ⟨fun i m σ' H' => ∃ w' env' G', w1.Le w' ∧ RS M w' fr env' G' σ' H' ∧ m = ds.length - i ∧ i ≤ ds.length ∧ PostS M W fr w' D (forL gd mg s1 (ds.drop i) env' G'), ⟨_, w1, env, G1, Wd.Le.refl w1, r1, rfl, Nat.zero_le _, h1⟩, ?_⟩
  rintro i m σ' H' ⟨w', env', G', l', r', rfl, hi, h'⟩
  have hgd : gdOk gd G' := by
    by_cases q : gdOk gd G'
    · exact q
    · exfalso
      cases e : ds.drop i with
      | nil => rw [e] at h'; unfold forL at h'; rw [if_neg q] at h'; exact h'
      | cons d r => rw [e] at h'; unfold forL at h'; rw [if_neg q] at h'; exact h'
  by_cases hlt : i < ds.length
  · rw [List.drop_eq_getElem_cons hlt] at h'
    unfold forL at h'
    rw [if_pos hgd] at h'
    refine .inr ⟨jo.go i w' fr env' G' σ' H' l' r' hgd hlt, fun σ2 H2 => ∃ w2 env2 G2, w1.Le w2 ∧ RS M w2 fr env2 G2 σ2 H2 ∧ PostS M W fr w2 D (forL gd mg s1 (ds.drop (i + 1)) env2 G2),
      fun σ2 H2 ⟨w2, env2, G2, q1, q2, q3⟩ => ⟨ds.length - (i + 1), by omega, w2, env2, G2, q1, q2, rfl, hlt, q3⟩, fun x H2 hy => ?_⟩
    obtain ⟨w2, l2, r2, dv⟩ := jo.yld i w' fr env' G' σ' H' x H2 ds[i] l' r' hgd (List.getElem?_eq_getElem hlt) hy
    refine g2 w2 fr env' G' σ' H2 _ ds[i] x r2 dv ?_
    cases e : mg ds[i] env' with
    | none => rw [e] at h'; exact h'.elim
    | some env1 =>
      rw [e] at h'
      intro w3 σ3 H3 l3 r3 _
      refine b2 w3 fr env1 G' σ3 H3 _ r3 ?_
      simp only at h'
      have l13 := (l'.trans l2).trans l3
      have lw := l2.trans l3
      cases e2 : s1 env1 G' with
      | nx env2 G2 => rw [e2] at h'; exact fun w4 σ4 H4 l4 r4 => ⟨w4, env2, G2, l13.trans l4, r4, PostS.up h' (lw.trans l4)⟩
      | ct env2 G2 => rw [e2] at h'; exact fun w4 σ4 H4 l4 r4 => ⟨w4, env2, G2, l13.trans l4, r4, PostS.up h' (lw.trans l4)⟩
      | bk env2 G2 => rw [e2] at h'; exact PostS.up (r := .nx env2 G2) h' lw
      | rt d G2 => rw [e2] at h'; exact PostS.up (r := .rt d G2) h' lw
      | exc d G2 => rw [e2] at h'; exact PostS.up (r := .exc d G2) h' lw
      | bad => rw [e2] at h'; exact h'
  · have e : i = ds.length := by omega
    subst e
    rw [List.drop_length] at h'
    unfold forL at h'
    rw [if_pos hgd] at h'
    exact .inl ⟨jo.stop w' fr env' G' σ' H' l' r' hgd, h' w' σ' H' (Wd.Le.refl w') r'⟩
end
end GL
/-! GL part 7: what a for walks. -/
namespace GL
open PySem L2
section
variable {M : Im} {W : XW} {X : Cx} {k : Nat} {tg a b c : Expr} {ma mb : ME} {pos p : Pos}
theorem PI.or {wi wi' : TI} (h : PI X tg a wi) (h' : PI X tg a wi') : PI X tg a (fun σ H R => wi σ H R ∨ wi' σ H R) := by
  refine ⟨fun pins s σ H R I q => ?_⟩
  rcases q with q | q
  · exact h.run pins s σ H R I q
  · exact h'.run pins s σ H R I q
def itemsD : D → Gh → R (List D × Gd)
  | .lst xs, g => .ok (xs, none) g
  | .loc n, g => match g[n]? with
    | some (.lst xs) => .ok (xs, some (n, xs)) g
    | _ => .bad
  | .tup xs, g => .ok (xs, none) g
  | .str x, g => .ok (x.cps.toList.map fun c => .str ⟨#[c]⟩, none) g
  | .arr ns, g => .ok (ns.map .int, none) g
  | _, _ => .bad
def iV (a : ME) : MI := fun env g => (a env g).bind itemsD
theorem itok_list {w : Wd} {xs : List D} {vs : List V} {q : Addr} (hc : w.C q = some (.lst vs)) (hd : DVs M w xs vs) : ItOk M w none (Itl M.K q) xs where
  go := fun i w' fr env G σ H l r _ hi => by
    have h1 := r.cold _ _ (l.c _ _ hc)
    have hi' : i < vs.length := by rw [← hd.length]; exact hi
    exact ⟨vs, vs[i], .inl (.inl h1), List.getElem?_eq_getElem hi'⟩
  yld := fun i w' fr env G σ H x H' d l r _ hi y => by
    obtain ⟨rfl, y⟩ := y
    have h1 := r.cold _ _ (l.c _ _ hc)
    obtain ⟨v, h2, h3⟩ := hd.get hi
    have := y vs (.inl (.inl h1))
    rw [h2] at this; cases this
    exact ⟨w', Wd.Le.refl _, r, h3.up l⟩
  stop := fun w' fr env G σ H l r _ => ⟨vs, .inl (.inl (r.cold _ _ (l.c _ _ hc))), by rw [hd.length]; exact Nat.le_refl _⟩
theorem itok_tup {w : Wd} {xs : List D} {vs : List V} {q : Addr} (hc : SqT M.K w.C q vs) (hd : DVs M w xs vs) : ItOk M w none (Itt M.K q) xs where
  go := fun i w' fr env G σ H l r _ hi => by
    have h1 := SqT.mono (fun a o e => r.cold _ _ (l.c _ _ e)) hc
    have hi' : i < vs.length := by rw [← hd.length]; exact hi
    exact ⟨vs, vs[i], h1, List.getElem?_eq_getElem hi'⟩
  yld := fun i w' fr env G σ H x H' d l r _ hi y => by
    obtain ⟨rfl, y⟩ := y
    have h1 := SqT.mono (fun a o e => r.cold _ _ (l.c _ _ e)) hc
    obtain ⟨v, h2, h3⟩ := hd.get hi
    have := y vs h1
    rw [h2] at this; cases this
    exact ⟨w', Wd.Le.refl _, r, h3.up l⟩
  stop := fun w' fr env G σ H l r _ => ⟨vs, SqT.mono (fun a o e => r.cold _ _ (l.c _ _ e)) hc, by rw [hd.length]; exact Nat.le_refl _⟩
theorem itok_arr {w : Wd} {ns : List Int} {q : Addr} (hc : SqL M.K w.C q (ns.map V.int)) : ItOk M w none (Itl M.K q) (ns.map D.int) where
  go := fun i w' fr env G σ H l r _ hi => by
    have h1 := SqL.mono (fun a o e => r.cold _ _ (l.c _ _ e)) hc
    have hi' : i < (ns.map V.int).length := by simpa using hi
    exact ⟨_, _, h1, List.getElem?_eq_getElem hi'⟩
  yld := fun i w' fr env G σ H x H' d l r _ hi y => by
    obtain ⟨rfl, y⟩ := y
    have h1 := SqL.mono (fun a o e => r.cold _ _ (l.c _ _ e)) hc
    obtain ⟨v, h2, h3⟩ := (DVs.ints (M := M) (w := w) (ns := ns)).get hi
    have := y _ h1
    rw [h2] at this; cases this
    exact ⟨w', Wd.Le.refl _, r, h3.up l⟩
  stop := fun w' fr env G σ H l r _ => ⟨_, SqL.mono (fun a o e => r.cold _ _ (l.c _ _ e)) hc, by simp⟩
theorem itok_loc {w : Wd} {n : Nat} {xs : List D} {q : Addr} (hn : w.ρ[n]? = some q) : ItOk M w (some (n, xs)) (Itl M.K q) xs := by
  have key : ∀ w' fr env G σ H, w.Le w' → RS M w' fr env G σ H → gdOk (some (n, xs)) G → ∃ vs, H q = some (.lst vs) ∧ DVs M w' xs vs := fun w' fr env G σ H l r hg => by
    obtain ⟨a, ho, h1, h2, h3⟩ := r.obj (show G[n]? = some (.lst xs) from hg)
    rw [l.r _ _ hn] at h1; cases h1
    cases h3 with
    | lst h3 => exact ⟨_, h2, h3⟩
  refine ⟨fun i w' fr env G σ H l r hg hi => ?_, fun i w' fr env G σ H x H' d l r hg hi y => ?_, fun w' fr env G σ H l r hg => ?_⟩
  · obtain ⟨vs, h1, hd⟩ := key _ _ _ _ _ _ l r hg
    have hi' : i < vs.length := by rw [← hd.length]; exact hi
    exact ⟨vs, vs[i], .inl (.inl h1), List.getElem?_eq_getElem hi'⟩
  · obtain ⟨rfl, y⟩ := y
    obtain ⟨vs, h1, hd⟩ := key _ _ _ _ _ _ l r hg
    obtain ⟨v, h2, h3⟩ := hd.get hi
    have := y vs (.inl (.inl h1))
    rw [h2] at this; cases this
    exact ⟨w', Wd.Le.refl _, r, h3⟩
  · obtain ⟨vs, h1, hd⟩ := key _ _ _ _ _ _ l r hg
    exact ⟨vs, .inl (.inl h1), by rw [hd.length]; exact Nat.le_refl _⟩
theorem itok_str {w : Wd} {x : Str} : ItOk M w none (Its x) (x.cps.toList.map fun c => D.str ⟨#[c]⟩) where
  go := fun i w' fr env G σ H l r _ hi => by
    show i < x.cps.size
    simpa using hi
  yld := fun i w' fr env G σ H v H' d l r _ hi y => by
    obtain ⟨rfl, c, h1, rfl⟩ := y
    rw [List.getElem?_map, Array.getElem?_toList, h1] at hi
    cases hi
    exact ⟨w', Wd.Le.refl _, r, .str _⟩
  stop := fun w' fr env G σ H l r _ => by simp [Its]
def rangeD (lo : Int) (n : Nat) : List D := (List.range n).map fun (i : Nat) => D.int (lo + i)
theorem itok_range {w : Wd} {lo : Int} {n : Nat} : ItOk M w none (Itr lo n) (rangeD lo n) where
  go := fun i w' fr env G σ H l r _ hi => by
    show i < n
    simpa [rangeD] using hi
  yld := fun i w' fr env G σ H v H' d l r _ hi y => by
    obtain ⟨rfl, rfl⟩ := y
    unfold rangeD at hi
    rw [List.getElem?_map] at hi
    cases e : (List.range n)[i]? with
    | none => rw [e] at hi; cases hi
    | some j =>
      rw [e] at hi
      cases hi
      obtain ⟨h1, h2⟩ := List.getElem?_eq_some_iff.mp e
      simp at h2
      subst h2
      exact ⟨w', Wd.Le.refl _, r, .int _⟩
  stop := fun w' fr env G σ H l r _ => by simp [Itr, rangeD]

theorem si_val (g : GX M k X) (ha : SE M W X a ma) : SI M W X tg a (iV ma) := by
  obtain ⟨t, a1, a2⟩ := ha
  refine ⟨_, PI.or (pi_list a1) (PI.or (pi_tup a1) (pi_str a1)), fun w fr env G σ H Q r h => ?_⟩
  have h := Post.bind h
  have hK := g.K
  -- what the value is tells which way; each way's reading is told by the same evaluation
  cases e : ma env G with
  | bad => rw [e] at h; exact h.elim
  | exc x G' =>
    rw [e] at h
    exact .inl (a2 w fr env G σ H _ r (by rw [e]; exact h))
  | ok d G1 =>
    rw [e] at h
    cases d with
    | non =>
      refine .inl (a2 w fr env G σ H _ r ?_)
      rw [e]
      exact fun w' H' l r' v dv => (h w' H' l r').elim
    | bl b =>
      refine .inl (a2 w fr env G σ H _ r ?_)
      rw [e]
      exact fun w' H' l r' v dv => (h w' H' l r').elim
    | int b =>
      refine .inl (a2 w fr env G σ H _ r ?_)
      rw [e]
      exact fun w' H' l r' v dv => (h w' H' l r').elim
    | fn b =>
      refine .inl (a2 w fr env G σ H _ r ?_)
      rw [e]
      exact fun w' H' l r' v dv => (h w' H' l r').elim
    | lst xs =>
      refine .inl (a2 w fr env G σ H _ r ?_)
      rw [e]
      intro w' H' l r' v dv
      cases dv with
      | lst h1 h2 =>
        exact ⟨_, rfl, ⟨_, .inl (.inl (r'.cold _ _ h1))⟩, Post.here (h w' H' l r') r' _ (by rw [hK]; exact itok_list h1 h2) trivial⟩
    | arr ns =>
      refine .inl (a2 w fr env G σ H _ r ?_)
      rw [e]
      intro w' H' l r' v dv
      cases dv with
      | arr h1 =>
        have h2 := SqL.mono r'.cold h1
        rw [← hK] at h2
        exact ⟨_, rfl, ⟨_, h2⟩, Post.here (h w' H' l r') r' _ (by rw [hK]; exact itok_arr h1) trivial⟩
    | tup xs =>
      refine .inr (.inl (a2 w fr env G σ H _ r ?_))
      rw [e]
      intro w' H' l r' v dv
      cases dv with
      | tup h1 h2 =>
        have h3 := SqT.mono r'.cold h1
        rw [← hK] at h3
        exact ⟨_, rfl, ⟨_, h3⟩, Post.here (h w' H' l r') r' _ (by rw [hK]; exact itok_tup h1 h2) trivial⟩
    | str x =>
      refine .inr (.inr (a2 w fr env G σ H _ r ?_))
      rw [e]
      intro w' H' l r' v dv
      cases dv
      exact ⟨_, rfl, Post.here (h w' H' l r') r' _ itok_str trivial⟩
    | loc n =>
      refine .inl (a2 w fr env G σ H _ r ?_)
      rw [e]
      intro w' H' l r' v dv
      cases dv with
      | loc h1 =>
        have h2 := h w' H' l r'
        simp only [itemsD] at h2
        cases eo : G1[n]? with
        | none => rw [eo] at h2; exact h2.elim
        | some o =>
          rw [eo] at h2
          cases o with
          | ins c fs => exact h2.elim
          | dct kvs => exact h2.elim
          | lst xs =>
            obtain ⟨q, ho, q1, q2, q3⟩ := r'.obj eo
            rw [h1] at q1; cases q1
            cases q3 with
            | lst q3 => exact ⟨_, rfl, ⟨_, .inl (.inl q2)⟩, Post.here h2 r' _ (by rw [hK]; exact itok_loc h1) eo⟩
/-- range(e), range(e, e') -/
def RngOk (i : Int) : Prop := -(2 ^ 62) ≤ i ∧ i < 2 ^ 62
noncomputable def rngOk (i : Int) : Bool := tru (RngOk i)
noncomputable def iRange1 (a : ME) : MI := fun env g => (a env g).bind fun x g1 => match x with
  | .int j => if rngOk j then .ok (rangeD 0 j.toNat, none) g1 else .bad
  | _ => .bad
noncomputable def iRange2 (a b : ME) : MI := fun env g => (a env g).bind fun x g1 => (b env g1).bind fun y g2 => match x, y with
  | .int i, .int j => if rngOk i && rngOk j then .ok (rangeD i (j - i).toNat, none) g2 else .bad
  | _, _ => .bad
theorem si_range1 (g : GX M k X) (hg : Gl X "range") (hm : M.mg "range" = none) (ha : SE M W X a ma) (hs : starEach [a] X.env = [(false, eval a X.env)]) : SI M W X tg (.Call (.Name "range" p) [a] [] pos) (iRange1 ma) := by
  obtain ⟨t, a1, a2⟩ := ha
  refine ⟨_, pi_range1 hg (by rw [g.mg]; exact hm) (pa_cons a1 pa_nil hs) hs, fun w fr env G σ H Q r h => ?_⟩
  refine a2 w fr env G σ H _ r ((Post.bind h).imp fun x w1 G1 H1 l1 r1 h1 vx dx => ?_)
  cases dx <;> try exact h1.elim
  rename_i j
  by_cases hj : rngOk j = true
  · simp only [hj, if_true] at h1
    simp only [rngOk, RngOk, tru_iff, Bool.and_eq_true] at hj
    exact ⟨j, rfl, hj.1, hj.2, Post.here h1 r1 _ itok_range trivial⟩
  · simp only [hj, if_false] at h1; exact h1.elim
theorem si_range2 (g : GX M k X) (hg : Gl X "range") (hm : M.mg "range" = none) (ha : SE M W X a ma) (hb : SE M W X b mb) (hs : starEach [a, b] X.env = [(false, eval a X.env), (false, eval b X.env)]) (hs2 : starEach [b] X.env = [(false, eval b X.env)]) : SI M W X tg (.Call (.Name "range" p) [a, b] [] pos) (iRange2 ma mb) := by
  obtain ⟨t, a1, a2⟩ := ha
  obtain ⟨u, b1, b2⟩ := hb
  refine ⟨_, pi_range2 hg (by rw [g.mg]; exact hm) (pa_cons a1 (pa_cons b1 pa_nil hs2) (by rw [hs, hs2])) hs hs2, fun w fr env G σ H Q r h => ?_⟩
  refine a2 w fr env G σ H _ r ((Post.bind h).imp fun x w1 G1 H1 l1 r1 h1 vx dx => ?_)
  refine b2 w1 fr env G1 σ H1 _ r1 ((Post.bind h1).imp fun y w2 G2 H2 l2 r2 h2 vy dy => ?_)
  cases dx <;> cases dy <;> try exact h2.elim
  rename_i i j
  by_cases hj : (rngOk i && rngOk j) = true
  · simp only [hj, if_true] at h2
    simp only [rngOk, RngOk, tru_iff, Bool.and_eq_true] at hj
    exact ⟨i, j, rfl, ⟨hj.1.1, hj.1.2, hj.2.1, hj.2.2⟩, Post.here h2 r2 _ itok_range trivial⟩
  · simp only [hj, if_false] at h2; exact h2.elim
end
end GL
/-! GL part 8: list comprehensions. -/
namespace GL
open PySem L2
abbrev W0 : XW := fun _ _ _ _ => False
/-! ### readings told by the clean meaning alone -/
def tOf (M : Im) (W : XW) (m : ME) : TE := fun σ H Q => ∃ w fr env G, RS M w fr env G σ H ∧ Post M W fr env σ w (PE' M Q) (m env G)
def ttOf (M : Im) (W : XW) (m : MT) : TT := fun σ H Q => ∃ w fr env G, RS M w fr env G σ H ∧ Post M W fr env σ w (PT' Q) (m env G)
def gOf (M : Im) (ts : List Nat) (m : MG) : TG := fun v σ H Q => ∃ w fr env G d, RS M w fr env G σ H ∧ DV M w d v ∧ PostG M fr w G σ ts Q (m d env)
section
variable {M : Im} {W : XW} {X : Cx} {k : Nat}
theorem SE.pe {e : Expr} {m : ME} (h : SE M W X e m) : PE X e (tOf M W m) := by
  obtain ⟨t, h1, h2⟩ := h
  exact ⟨fun pins s σ H Q I ⟨w, fr, env, G, r, p⟩ => h1.run pins s σ H Q I (h2 w fr env G σ H Q r p)⟩
theorem ST.pt {e : Expr} {m : MT} (h : ST M W X e m) : PT X e (ttOf M W m) := by
  obtain ⟨t, h1, h2⟩ := h
  exact ⟨fun pins s σ H Q I ⟨w, fr, env, G, r, p⟩ => h1.run pins s σ H Q I (h2 w fr env G σ H Q r p)⟩
theorem SG.pg {e : Expr} {ts : List Nat} {m : MG} (h : SG M X e ts m) : PG X e (gOf M ts m) := by
  obtain ⟨t, h1, h2⟩ := h
  exact ⟨fun pins s σ H v u Q I rv ⟨w, fr, env, G, d, r, dv, p⟩ => h1.run pins s σ H v u Q I rv (h2 w fr env G σ H Q d v r dv p)⟩
/-- a clause's tests -/
def STs (M : Im) (W : XW) (X : Cx) (ifs : List Expr) (m : MT) : Prop := PTs X ifs (ttOf M W m)
def tTrue : MT := fun _ g => .ok true g
theorem sts_nil : STs M W X [] tTrue := ⟨fun pins s σ H Q I ⟨w, fr, env, G, r, p⟩ => (pts_nil (X := X)).run pins s σ H Q I (Post.here (P := PT' Q) (a := true) p r)⟩
theorem sts_one {c : Expr} {m : MT} (h : ST M W X c m) : STs M W X [c] m := pts_one h.pt
end

def hideS : Sl → Sl
  | .own _ => .un
  | s => s
def wipeE (env : Env') : List Nat → Env'
  | [] => env
  | v :: vs => (wipeE env vs).set v .un
/-- the slots within a comprehension's block -/
def blkE (env : Env') (vs : List Nat) : Env' := wipeE (env.map hideS) vs
section
variable {M : Im} {w : Wd}
theorem SlR.hide : ∀ {os : List (Addr × HO)} {env : Env'} {σ : L2.St}, SlR M w os env σ → SlR M w [] (env.map hideS) σ
  | _, _, _, .nil => .nil
  | _, _, _, .un b => .un (SlR.hide b)
  | _, _, _, .val a b => .val a (SlR.hide b)
  | _, _, _, .own a b => .un (SlR.hide b)
theorem SlR.wipe {env : Env'} {σ : L2.St} (h : SlR M w [] env σ) : ∀ vs : List Nat, SlR M w [] (wipeE env vs) (L2.wipe σ vs)
  | [] => h
  | v :: vs => by
    unfold wipeE L2.wipe
    obtain ⟨os, h1, h2⟩ := SlR.wipe1 (o := none) v (SlR.wipe h vs)
    cases h1
    exact h2
end
theorem wipe_ag {σ σ' : L2.St} : ∀ (vs : List Nat), Ag vs σ σ' → L2.wipe σ' vs = L2.wipe σ vs := by
  have look : ∀ (σ : L2.St) (vs : List Nat) (i : Nat), (L2.wipe σ vs)[i]? = if i ∈ vs ∧ i < σ.length then some none else σ[i]? := by
    intro σ vs
    induction vs with
    | nil => intro i; simp [L2.wipe]
    | cons v vs ih =>
      intro i
      unfold L2.wipe
      by_cases hv : v = i
      · subst hv
        by_cases hl : v < σ.length
        · rw [List.getElem?_set_self (by rw [wipe_length]; exact hl), if_pos ⟨List.mem_cons_self, hl⟩]
        · rw [List.getElem?_eq_none (by simp [wipe_length]; omega), if_neg (fun q => hl q.2), List.getElem?_eq_none (by omega)]
      · rw [List.getElem?_set_ne hv, ih]
        have : (i ∈ v :: vs ∧ i < σ.length) ↔ (i ∈ vs ∧ i < σ.length) := by
          rw [List.mem_cons]
          constructor
          · rintro ⟨rfl | h, h2⟩
            · exact absurd rfl hv
            · exact ⟨h, h2⟩
          · rintro ⟨h, h2⟩; exact ⟨.inr h, h2⟩
        simp only [this]
  intro vs ag
  apply List.ext_getElem?
  intro i
  rw [look, look, ag.1]
  by_cases hi : i ∈ vs
  · by_cases hl : i < σ.length
    · rw [if_pos ⟨hi, hl⟩, if_pos ⟨hi, hl⟩]
    · rw [if_neg (fun q => hl q.2), if_neg (fun q => hl q.2), List.getElem?_eq_none (by have := ag.1; omega), List.getElem?_eq_none (by omega)]
  · rw [if_neg (fun q => hi q.1), if_neg (fun q => hi q.1)]
    exact ag.2 i hi
theorem Ag.mono {ts vs : List Nat} {σ σ' : L2.St} (h : Ag ts σ σ') (s : ∀ i ∈ ts, i ∈ vs) : Ag vs σ σ' := ⟨h.1, fun i hi => h.2 i (fun q => hi (s i q))⟩

/-- an object left out of H -/
def outA (H : Hp) (p : Addr) : Hp := fun b => if b = p then none else H b
theorem outA_upd {H : Hp} {p : Addr} {o : HO} (h : H p = some o) : upd (outA H p) p o = H := by
  funext b
  unfold upd outA
  by_cases hb : b = p
  · rw [if_pos hb, hb, h]
  · rw [if_neg hb, if_neg hb]
theorem RG.out {M : Im} {w : Wd} {fr : List (Addr × HO)} {G : Gh} {H : Hp} {p : Addr} {o : HO} (r : RG M w ((p, o) :: fr) G H) : RG M w fr G (outA H p) := by
  have nd : (w.ρ ++ p :: fr.map (·.1)).Nodup := r.nd
  have nd' := List.nodup_cons.mp ((List.perm_middle.nodup_iff).mp nd)
  have hc : w.C p = none := r.hot p (by simp)
  have ne : ∀ a, a ∈ w.ρ ++ fr.map (·.1) → a ≠ p := fun a ha e => nd'.1 (by subst e; exact ha)
  have o_ne : ∀ a, a ≠ p → outA H p a = H a := fun a ha => by unfold outA; rw [if_neg ha]
  have lt := r.less (List.sublist_cons_self (p, o) fr)
  refine ⟨fun a u e => ?_, lt.len, fun n ob a e1 e2 => ?_, fun q hq => ?_, lt.nd, lt.hot⟩
  · rw [o_ne a (ne_of_none e hc)]; exact r.cold a u e
  · obtain ⟨ho, h1, h2⟩ := lt.obj n ob a e1 e2
    exact ⟨ho, by rw [o_ne a (ne a (List.mem_append_left _ (List.mem_of_getElem? e2)))]; exact h1, h2⟩
  · rw [o_ne q.1 (ne q.1 (List.mem_append_right _ (List.mem_map.mpr ⟨q, hq, rfl⟩)))]; exact lt.frm q hq
theorem outA_same {H : Hp} {p : Addr} : outA H p p = none := if_pos rfl

/-! ### the meaning -/
open Classical in
noncomputable def compL (gd : Gd) (tg : MG) (t : MT) (e : ME) : List D → Env' → Gh → R (List D)
  | [], _, g => if gdOk gd g then .ok [] g else .bad
  | d :: ds, env, g => if gdOk gd g then (match tg d env with
      | none => .bad
      | some env1 => match t env1 g with
        | .ok k g1 => if k then (match e env1 g1 with
            | .ok y g2 => (match compL gd tg t e ds env g2 with
              | .ok ys g3 => .ok (y :: ys) g3
              | _ => .bad)
            | _ => .bad) else compL gd tg t e ds env g1
        | _ => .bad) else .bad
noncomputable def lComp (it : MI) (tg : MG) (t : MT) (e : ME) (vs : List Nat) : ML := fun env g => (it env g).bind fun p g1 => match compL p.2 tg t e p.1 (blkE env vs) g1 with
  | .ok ys g2 => if ys.length ≤ LIM then .ok ys g2 else .bad
  | _ => .bad
section
variable {M : Im} {W : XW} {X : Cx} {k : Nat} {elt tg iter : Expr} {ifs : List Expr} {scope : Scope} {own : List (Str × Nat)} {pos : Pos} {wi : TI} {mi : MI} {mg : MG} {mt : MT} {me : ME} {ts : List Nat} {vs : List Nat}
abbrev PF' (M : Im) (Q : VK) : List D → Wd → Gh → Hp → Prop := fun ds w' _ H' => ∀ us p, DVs M w' ds us → us.length ≤ sizeLine → H' p = none → Q (.ref p) (upd H' p (.lst us))
theorem lc_read (i2 : ∀ w fr env G σ H Q, RS M w fr env G σ H → Post M W fr env σ w (fun p w' G' H' => ∀ J, ItOk M w' p.2 J p.1 → gdOk p.2 G' → Q J H') (mi env G) → wi σ H Q) (hts : ∀ i ∈ ts, i ∈ vs)
    {w : Wd} {fr : List (Addr × HO)} {env : Env'} {G : Gh} {σ : L2.St} {H : Hp} {Q : VK} (r : RS M w fr env G σ H) (h : Post M W fr env σ w (PF' M Q) (lComp mi mg mt me vs env G)) :
    tLc wi (gOf M ts mg) (ttOf M W0 mt) (tOf M W0 me) vs σ H Q := by
  refine i2 w fr env G σ H _ r ((Post.bind h).imp fun p w1 G1 H1 l1 r1 h1 J jo gok => ?_)
  obtain ⟨ds, gd⟩ := p
  simp only at h1 jo gok
  cases e : compL gd mg mt me ds (blkE env vs) G1 with
  | bad => rw [e] at h1; exact h1.elim
  | exc x g => rw [e] at h1; exact h1.elim
  | ok ys Gf =>
    rw [e] at h1
    by_cases hlen : ys.length ≤ LIM
    · simp only [hlen, if_true] at h1
      intro D hD
      obtain ⟨os, g1, sl⟩ := r1
      have sb : SlR M w1 [] (blkE env vs) (L2.wipe σ vs) := SlR.wipe sl.hide vs
      refine ⟨fun i m H' => ∃ w' G' accD accV ys', w1.Le w' ∧ RG M w' ((D, .lst accV) :: (os ++ fr)) G' H' ∧ DVs M w' accD accV ∧ compL gd mg mt me (ds.drop i) (blkE env vs) G' = .ok ys' Gf ∧ accD ++ ys' = ys ∧ m = ds.length - i ∧ i ≤ ds.length,
        ⟨_, w1, G1, [], [], ys, Wd.Le.refl w1, g1.newFr hD, .nil, e, rfl, rfl, Nat.zero_le _⟩, ?_⟩
      rintro i m H' ⟨w', G', accD, accV, ys', l', g', da, e', ey, rfl, hi⟩
      have rb : RS M w' ((D, .lst accV) :: (os ++ fr)) (blkE env vs) G' (L2.wipe σ vs) H' := ⟨[], g', sb.up l'⟩
      have hgd : gdOk gd G' := by
        by_cases q : gdOk gd G'
        · exact q
        · exfalso
          cases ed : ds.drop i with
          | nil => rw [ed] at e'; unfold compL at e'; rw [if_neg q] at e'; cases e'
          | cons d r => rw [ed] at e'; unfold compL at e'; rw [if_neg q] at e'; cases e'
      by_cases hlt : i < ds.length
      · rw [List.drop_eq_getElem_cons hlt] at e'
        unfold compL at e'
        rw [if_pos hgd] at e'
        cases e1 : mg ds[i] (blkE env vs) with
        | none => rw [e1] at e'; cases e'
        | some env1 =>
          rw [e1] at e'
          simp only at e'
          cases e2 : mt env1 G' with
          | bad => rw [e2] at e'; cases e'
          | exc x g => rw [e2] at e'; cases e'
          | ok kk g2 =>
            rw [e2] at e'
            simp only at e'
            refine .inr ⟨jo.go i w' _ _ G' _ H' l' rb hgd hlt, fun H2 => ∃ w' G' accD accV ys', w1.Le w' ∧ RG M w' ((D, .lst accV) :: (os ++ fr)) G' H2 ∧ DVs M w' accD accV ∧ compL gd mg mt me (ds.drop (i + 1)) (blkE env vs) G' = .ok ys' Gf ∧ accD ++ ys' = ys,
              fun H2 ⟨w2, G2, a2, v2, y2, q1, q2, q3, q4, q5⟩ => ⟨ds.length - (i + 1), by omega, w2, G2, a2, v2, y2, q1, q2, q3, q4, q5, rfl, hlt⟩, fun x H2 hy => ?_⟩
            obtain ⟨w2, l2, r2, dv⟩ := jo.yld i w' _ _ G' _ H' x H2 ds[i] l' rb hgd (List.getElem?_eq_getElem hlt) hy
            refine ⟨w2, (D, .lst accV) :: (os ++ fr), blkE env vs, G', ds[i], r2, dv, ?_⟩
            rw [e1]
            intro w3 σ3 H3 l3 r3 ag3
            have ag : L2.wipe σ3 vs = L2.wipe σ vs := by
              rw [wipe_ag vs (ag3.mono hts)]
              exact wipe_ag vs ⟨by rw [wipe_length], fun j hj => by
                have : ∀ (l : List Nat), j ∉ l → (L2.wipe σ l)[j]? = σ[j]? := fun l => wipe_out
                exact this vs hj⟩
            refine ⟨ag, w3, _, env1, G', r3, ?_⟩
            rw [e2]
            intro w4 H4 l4 r4
            show if kk = true then _ else _
            cases kk with
            | false =>
              simp only [Bool.false_eq_true, if_false] at e' ⊢
              obtain ⟨oo, g4, s4⟩ := r4
              exact ⟨w4, g2, accD, accV, ys', ((l'.trans l2).trans l3).trans l4, (g4.less (List.sublist_append_right _ _)), da.up ((l2.trans l3).trans l4), e', ey⟩
            | true =>
              simp only [if_true] at e' ⊢
              cases e3 : me env1 g2 with
              | bad => rw [e3] at e'; cases e'
              | exc x g => rw [e3] at e'; cases e'
              | ok y g3 =>
                rw [e3] at e'
                simp only at e'
                cases e4 : compL gd mg mt me (ds.drop (i + 1)) (blkE env vs) g3 with
                | bad => rw [e4] at e'; cases e'
                | exc x g => rw [e4] at e'; cases e'
                | ok ys2 g4 =>
                  rw [e4] at e'
                  have q : R.ok (y :: ys2) g4 = R.ok ys' Gf := e'
                  injection q with q1 q2
                  subst q1 q2
                  refine ⟨w4, _, env1, g2, r4, ?_⟩
                  rw [e3]
                  intro w5 H5 l5 r5 vy dy
                  obtain ⟨oo, g5, s5⟩ := r5
                  have g5' := g5.less (List.sublist_append_right oo ((D, HO.lst accV) :: (os ++ fr)))
                  have lall := (((l'.trans l2).trans l3).trans l4).trans l5
                  have lda := ((l2.trans l3).trans l4).trans l5
                  refine ⟨accV, g5'.frm (D, .lst accV) List.mem_cons_self, ?_, ?_⟩
                  · rw [← (da.length)]
                    have : accD.length + (ys2.length + 1) = ys.length := by rw [← ey]; simp
                    exact lim_lt (by omega)
                  · refine ⟨w5, g3, accD ++ [y], accV ++ [vy], ys2, lall, ?_, (da.up lda).append (.cons dy .nil), e4, by rw [← ey]; simp⟩
                    exact RG.setFr (f1 := []) g5'
      · have ei : i = ds.length := by omega
        subst ei
        rw [List.drop_length] at e'
        unfold compL at e'
        rw [if_pos hgd] at e'
        have q : R.ok ([] : List GL.D) G' = R.ok ys' Gf := e'
        injection q with q1 q2
        subst q1 q2
        rw [List.append_nil] at ey
        subst ey
        refine .inl ⟨jo.stop w' _ _ G' _ H' l' rb hgd, ?_⟩
        have hfr := g'.frm (D, .lst accV) List.mem_cons_self
        have ro : RS M w' fr env G' σ (outA H' D) := ⟨os, g'.out, sl.up l'⟩
        have := h1 w' _ l' ro accV D da (by rw [← da.length]; exact lim_le hlen) outA_same
        rw [outA_upd hfr] at this
        exact this
    · simp only [hlen, if_false] at h1; exact h1.elim

/-- [elt for tg in iter if ..] -/
theorem sf_comp (g : GX M k X) (hi : SI M W X tg iter mi) (ok : BlkOk X.N X.env.scope scope own)
    (hg : ∀ (s : Shared) (H : Hp) (C : Addr) (cl : List (Str × Addr)) (fp : List Addr), SG M (X.blk s H scope (compEnvC scope cl C X.env) fp) tg ts mg)
    (ht : ∀ (s : Shared) (H : Hp) (C : Addr) (cl : List (Str × Addr)) (fp : List Addr), STs M W0 (X.blk s H scope (compEnvC scope cl C X.env) fp) ifs mt)
    (he : ∀ (s : Shared) (H : Hp) (C : Addr) (cl : List (Str × Addr)) (fp : List Addr), SE M W0 (X.blk s H scope (compEnvC scope cl C X.env) fp) elt me)
    (hts : ∀ i ∈ ts, i ∈ own.map (·.2)) (hs : ∀ x, foldedSetIterable iter X.env x = pure x) :
    SF M W X (.ListComp elt [⟨tg, iter, ifs, 0⟩] scope pos) (lComp mi mg mt me (own.map (·.2))) := by
  obtain ⟨wi, i1, i2⟩ := hi
  exact ⟨_, pe_lc g.calm g.nd i1 ok (fun s H C cl fp => (hg s H C cl fp).pg) ht (fun s H C cl fp => (he s H C cl fp).pe) hs, fun w fr env G σ H Q r h => lc_read i2 hts r h⟩
/-- name = [..] on one line, the name a local: as a thing that never changes -/
theorem ss_setComp (g : GX M k X) {i : Nat} {y : Str} {py spos : Pos} (hy : X.N[i]? = some y) (hyl : X.env.scope.names.lookup y = some .local)
    (hsw : swapsWith (.ListComp elt [⟨tg, iter, ifs, 0⟩] scope pos) (some (.Name y py)) spos.line X.env = pure true) (hi : SI M W X tg iter mi) (ok : BlkOk X.N X.env.scope scope own)
    (hg : ∀ (s : Shared) (H : Hp) (C : Addr) (cl : List (Str × Addr)) (fp : List Addr), SG M (X.blk s H scope (compEnvC scope cl C X.env) fp) tg ts mg)
    (ht : ∀ (s : Shared) (H : Hp) (C : Addr) (cl : List (Str × Addr)) (fp : List Addr), STs M W0 (X.blk s H scope (compEnvC scope cl C X.env) fp) ifs mt)
    (he : ∀ (s : Shared) (H : Hp) (C : Addr) (cl : List (Str × Addr)) (fp : List Addr), SE M W0 (X.blk s H scope (compEnvC scope cl C X.env) fp) elt me)
    (hts : ∀ i ∈ ts, i ∈ own.map (·.2)) (hs : ∀ x, foldedSetIterable iter X.env x = pure x) :
    SS M W X (.Assign [.Name y py] (.ListComp elt [⟨tg, iter, ifs, 0⟩] scope pos) spos) (sSet i (eNew (lComp mi mg mt me (own.map (·.2))))) := by
  obtain ⟨wi, i1, i2⟩ := hi
  refine ⟨_, ps_setLc g.calm g.nd hy hyl hsw i1 ok (fun s H C cl fp => (hg s H C cl fp).pg) ht (fun s H C cl fp => (he s H C cl fp).pe) hs, fun w fr env G σ H D r h => ?_⟩
  refine lc_read i2 hts r ((Post.bind (PostS.bind h)).imp fun xs w1 G1 H1 l1 r1 h1 us p dvs hz hp => ?_)
  obtain ⟨l, r'⟩ := r1.newCold (o := .lst us) hp
  have h2 := h1 _ _ l r'
  exact h2 _ _ _ (Wd.Le.refl _) (r'.setVal i (.lst upd_same (dvs.up l)))
/-- .. as a list of the frame's own -/
theorem ss_setCompOwn (g : GX M k X) {i : Nat} {y : Str} {py spos : Pos} (hy : X.N[i]? = some y) (hyl : X.env.scope.names.lookup y = some .local)
    (hsw : swapsWith (.ListComp elt [⟨tg, iter, ifs, 0⟩] scope pos) (some (.Name y py)) spos.line X.env = pure true) (hi : SI M W X tg iter mi) (ok : BlkOk X.N X.env.scope scope own)
    (hg : ∀ (s : Shared) (H : Hp) (C : Addr) (cl : List (Str × Addr)) (fp : List Addr), SG M (X.blk s H scope (compEnvC scope cl C X.env) fp) tg ts mg)
    (ht : ∀ (s : Shared) (H : Hp) (C : Addr) (cl : List (Str × Addr)) (fp : List Addr), STs M W0 (X.blk s H scope (compEnvC scope cl C X.env) fp) ifs mt)
    (he : ∀ (s : Shared) (H : Hp) (C : Addr) (cl : List (Str × Addr)) (fp : List Addr), SE M W0 (X.blk s H scope (compEnvC scope cl C X.env) fp) elt me)
    (hts : ∀ i ∈ ts, i ∈ own.map (·.2)) (hs : ∀ x, foldedSetIterable iter X.env x = pure x) :
    SS M W X (.Assign [.Name y py] (.ListComp elt [⟨tg, iter, ifs, 0⟩] scope pos) spos) (sSetOwn i (lComp mi mg mt me (own.map (·.2)))) := by
  obtain ⟨wi, i1, i2⟩ := hi
  refine ⟨_, ps_setLc g.calm g.nd hy hyl hsw i1 ok (fun s H C cl fp => (hg s H C cl fp).pg) ht (fun s H C cl fp => (he s H C cl fp).pe) hs, fun w fr env G σ H D r h => ?_⟩
  refine lc_read i2 hts r ((PostS.bind h).imp fun xs w1 G1 H1 l1 r1 h1 us p dvs hz hp => ?_)
  by_cases hl : i < env.length
  · rw [if_pos hl] at h1
    obtain ⟨os, g1, sl⟩ := r1
    obtain ⟨o1, o2, q1, q2, q3⟩ := sl.setOwn (a := p) dvs i hl
    refine h1 w1 _ _ (Wd.Le.refl w1) ⟨o2, ?_, q3⟩
    have g2 := (g1.less (q1.append (List.Sublist.refl fr))).newFr (o := .lst us) hp
    exact g2.perm (q2.append_right fr)
  · rw [if_neg hl] at h1; exact h1.elim
end
end GL
/-! GL part 9: built-in functions. -/
namespace GL
open PySem L2
def CallOk (M : Im) (W : XW) (X : Cx) (f : Value) (o : List D → Gh → R D) : Prop :=
  ∃ r, CallR X f r ∧ ∀ w fr env G σ H Q ds vs, RS M w fr env G σ H → DVs M w ds vs → Post M W fr env σ w (PE' M Q) (o ds G) → r vs H Q
/-- a built-in that hands out a new list -/
def CallF (M : Im) (W : XW) (X : Cx) (f : Value) (o : List D → Gh → R (List D)) : Prop :=
  ∃ r, CallR X f r ∧ ∀ w fr env G σ H Q ds vs, RS M w fr env G σ H → DVs M w ds vs → Post M W fr env σ w (PF' M Q) (o ds G) → r vs H Q
def eBi (o : List D → Gh → R D) (l : ML) : ME := fun env g => (l env g).bind o
def lBi (o : List D → Gh → R (List D)) (l : ML) : ML := fun env g => (l env g).bind o

section
variable {M : Im} {W : XW} {X : Cx} {k : Nat} {e : Expr} {es : List Expr} {ml : ML} {x : Str} {p pos : Pos} {bid T : String}
theorem se_callB (g : GX M k X) {o : List D → Gh → R D} (hc : CallOk M W X (.builtin bid) o) (hg : Gl X x) (hm : M.mg x = none) (hv : bootBuiltins x = some (.builtin bid)) (ha : SA M W X (e :: es) ml) (hn : x ≠ "__name__") (hdb : (x == ("__debug__" : Str)) = false)
    (he : starEach (e :: es) X.env = (false, eval e X.env) :: starEach es X.env) (hpl : (backTo pos (starEach es X.env)).any (·.1) = false) : SE M W X (.Call (.Name x p) (e :: es) [] pos) (eBi o ml) := by
  obtain ⟨r, o1, o2⟩ := hc
  obtain ⟨t, a1, a2⟩ := ha
  refine ⟨_, pe_callB o1 hg (by rw [g.mg]; exact hm) hv a1 hn hdb he hpl, fun w fr env G σ H Q rs h => ?_⟩
  exact a2 w fr env G σ H _ rs ((Post.bind h).imp fun ds w1 G1 H1 l1 r1 h1 vs dvs => o2 w1 fr env G1 σ H1 Q ds vs r1 dvs h1)
theorem se_callTy (g : GX M k X) {o : List D → Gh → R D} (hc : CallOk M W X (.type T) o) (hg : Gl X x) (hm : M.mg x = none) (hv : bootBuiltins x = some (.type T)) (ha : SA M W X (e :: es) ml) (hn : x ≠ "__name__") (hdb : (x == ("__debug__" : Str)) = false)
    (he : starEach (e :: es) X.env = (false, eval e X.env) :: starEach es X.env) (hpl : (backTo pos (starEach es X.env)).any (·.1) = false) : SE M W X (.Call (.Name x p) (e :: es) [] pos) (eBi o ml) := by
  obtain ⟨r, o1, o2⟩ := hc
  obtain ⟨t, a1, a2⟩ := ha
  refine ⟨_, pe_callTy o1 hg (by rw [g.mg]; exact hm) hv a1 hn hdb he hpl, fun w fr env G σ H Q rs h => ?_⟩
  exact a2 w fr env G σ H _ rs ((Post.bind h).imp fun ds w1 G1 H1 l1 r1 h1 vs dvs => o2 w1 fr env G1 σ H1 Q ds vs r1 dvs h1)
theorem sf_callTy (g : GX M k X) {o : List D → Gh → R (List D)} (hc : CallF M W X (.type T) o) (hg : Gl X x) (hm : M.mg x = none) (hv : bootBuiltins x = some (.type T)) (ha : SA M W X (e :: es) ml) (hn : x ≠ "__name__") (hdb : (x == ("__debug__" : Str)) = false)
    (he : starEach (e :: es) X.env = (false, eval e X.env) :: starEach es X.env) (hpl : (backTo pos (starEach es X.env)).any (·.1) = false) : SF M W X (.Call (.Name x p) (e :: es) [] pos) (lBi o ml) := by
  obtain ⟨r, o1, o2⟩ := hc
  obtain ⟨t, a1, a2⟩ := ha
  refine ⟨_, pe_callTy o1 hg (by rw [g.mg]; exact hm) hv a1 hn hdb he hpl, fun w fr env G σ H Q rs h => ?_⟩
  exact a2 w fr env G σ H _ rs ((Post.bind h).imp fun ds w1 G1 H1 l1 r1 h1 vs dvs => o2 w1 fr env G1 σ H1 Q ds vs r1 dvs h1)
theorem sf_callB (g : GX M k X) {o : List D → Gh → R (List D)} (hc : CallF M W X (.builtin bid) o) (hg : Gl X x) (hm : M.mg x = none) (hv : bootBuiltins x = some (.builtin bid)) (ha : SA M W X (e :: es) ml) (hn : x ≠ "__name__") (hdb : (x == ("__debug__" : Str)) = false)
    (he : starEach (e :: es) X.env = (false, eval e X.env) :: starEach es X.env) (hpl : (backTo pos (starEach es X.env)).any (·.1) = false) : SF M W X (.Call (.Name x p) (e :: es) [] pos) (lBi o ml) := by
  obtain ⟨r, o1, o2⟩ := hc
  obtain ⟨t, a1, a2⟩ := ha
  refine ⟨_, pe_callB o1 hg (by rw [g.mg]; exact hm) hv a1 hn hdb he hpl, fun w fr env G σ H Q rs h => ?_⟩
  exact a2 w fr env G σ H _ rs ((Post.bind h).imp fun ds w1 G1 H1 l1 r1 h1 vs dvs => o2 w1 fr env G1 σ H1 Q ds vs r1 dvs h1)

/-! ### abs, int, len, min, max -/
def oAbs : List D → Gh → R D
  | [.int i], g => .ok (.int (if i < 0 then -i else i)) g
  | _, _ => .bad
def oInt : List D → Gh → R D
  | [.int i], g => .ok (.int i) g
  | [.bl b], g => .ok (.int (if b then 1 else 0)) g
  | _, _ => .bad
def lenD : D → Option Nat
  | .str x => if x.length ≤ LIM then some x.length else none
  | .lst xs | .tup xs => some xs.length
  | .arr ns => some ns.length
  | _ => none
def oLen : List D → Gh → R D
  | [d], g => match lenD (deref g d) with
    | some n => .ok (.int n) g
    | none => .bad
  | _, _ => .bad
def oMin : List D → Gh → R D
  | [.int i, .int j], g => .ok (.int (if j < i then j else i)) g
  | _, _ => .bad
def oMax : List D → Gh → R D
  | [.int i, .int j], g => .ok (.int (if j > i then j else i)) g
  | _, _ => .bad
theorem DVs.one_inv {w : Wd} {d : D} {vs : List V} (h : DVs M w [d] vs) : ∃ v, vs = [v] ∧ DV M w d v := by
  cases h with
  | cons a b => cases b; exact ⟨_, rfl, a⟩
theorem DVs.two_inv {w : Wd} {d d' : D} {vs : List V} (h : DVs M w [d, d'] vs) : ∃ v v', vs = [v, v'] ∧ DV M w d v ∧ DV M w d' v' := by
  cases h with
  | cons a b =>
    obtain ⟨v', rfl, q⟩ := DVs.one_inv b
    exact ⟨_, _, rfl, a, q⟩
theorem abs_ok : CallOk M W X (.builtin "abs") oAbs := by
  refine ⟨_, call_abs, fun w fr env G σ H Q ds vs r hd h => ?_⟩
  unfold oAbs at h
  split at h
  · obtain ⟨v, rfl, q⟩ := DVs.one_inv hd
    cases q
    exact ⟨_, rfl, Post.here h r _ (.int _)⟩
  · exact h.elim
theorem int_ok : CallOk M W X (.type "int") oInt := by
  refine ⟨_, call_int1, fun w fr env G σ H Q ds vs r hd h => ?_⟩
  unfold oInt at h
  split at h
  · obtain ⟨v, rfl, q⟩ := DVs.one_inv hd
    cases q
    exact .inl ⟨_, rfl, Post.here h r _ (.int _)⟩
  · obtain ⟨v, rfl, q⟩ := DVs.one_inv hd
    cases q
    exact .inr ⟨_, rfl, Post.here h r _ (.int _)⟩
  · exact h.elim
theorem min_ok (g : GX M k X) : CallOk M W X (.builtin "min") oMin := by
  refine ⟨_, call_min2 g.calm, fun w fr env G σ H Q ds vs r hd h => ?_⟩
  unfold oMin at h
  split at h
  · obtain ⟨v, v', rfl, q, q'⟩ := DVs.two_inv hd
    cases q; cases q'
    exact ⟨_, _, rfl, Post.here h r _ (.int _)⟩
  · exact h.elim
theorem max_ok (g : GX M k X) : CallOk M W X (.builtin "max") oMax := by
  refine ⟨_, call_max2 g.calm, fun w fr env G σ H Q ds vs r hd h => ?_⟩
  unfold oMax at h
  split at h
  · obtain ⟨v, v', rfl, q, q'⟩ := DVs.two_inv hd
    cases q; cases q'
    exact ⟨_, _, rfl, Post.here h r _ (.int _)⟩
  · exact h.elim
theorem len_ok (g : GX M k X) : CallOk M W X (.builtin "len") oLen := by
  refine ⟨_, call_len, fun w fr env G σ H Q ds vs r hd h => ?_⟩
  unfold oLen at h
  split at h
  · rename_i d
    obtain ⟨v, rfl, q⟩ := DVs.one_inv hd
    have dh := DH.of r q
    generalize deref G d = d' at *
    cases d' <;> simp only [lenD] at h <;> try exact h.elim
    · rename_i z
      by_cases hz : z.length ≤ LIM
      · rw [if_pos hz] at h
        rw [dh.str]
        exact ⟨_, z.length, rfl, ⟨lim_le hz, rfl⟩, Post.here h r _ (.int _)⟩
      · rw [if_neg hz] at h; exact h.elim
    · obtain ⟨a, us, rfl, hs, hd'⟩ := dh.tup
      have hs' := SqT.mono r.cold hs
      rw [← g.K] at hs'
      exact ⟨_, us.length, rfl, .inr ⟨us, hs', rfl⟩, by rw [← hd'.length]; exact Post.here h r _ (.int _)⟩
    · obtain ⟨a, us, rfl, hs, hd'⟩ := dh.list
      exact ⟨_, us.length, rfl, .inl ⟨us, .inl (.inl hs), rfl⟩, by rw [← hd'.length]; exact Post.here h r _ (.int _)⟩
    · obtain ⟨a, rfl, hs⟩ := dh.arr
      have hs' := SqL.mono r.cold hs
      rw [← g.K] at hs'
      refine ⟨_, _, rfl, .inl ⟨_, hs', rfl⟩, ?_⟩
      rw [List.length_map]
      exact Post.here h r _ (.int _)
  · exact h.elim

/-! ### sum, all, any -/
def asInts : List D → Option (List Int)
  | [] => some []
  | .int i :: r => (asInts r).map (i :: ·)
  | _ :: _ => none
def asBls : List D → Option (List Bool)
  | [] => some []
  | .bl i :: r => (asBls r).map (i :: ·)
  | _ :: _ => none
theorem asInts_eq : ∀ {ds : List D} {ns : List Int}, asInts ds = some ns → ds = ns.map D.int
  | [], ns, h => by cases h; rfl
  | d :: ds, ns, h => by
    cases d <;> simp only [asInts] at h <;> try cases h
    cases e : asInts ds with
    | none => rw [e] at h; cases h
    | some ms => rw [e] at h; cases h; rw [asInts_eq e]; rfl
theorem asBls_eq : ∀ {ds : List D} {ns : List Bool}, asBls ds = some ns → ds = ns.map D.bl
  | [], ns, h => by cases h; rfl
  | d :: ds, ns, h => by
    cases d <;> simp only [asBls] at h <;> try cases h
    cases e : asBls ds with
    | none => rw [e] at h; cases h
    | some ms => rw [e] at h; cases h; rw [asBls_eq e]; rfl
@[simp] theorem asInts_map (ns : List Int) : asInts (ns.map D.int) = some ns := by
  induction ns with
  | nil => rfl
  | cons n ns ih => simp [asInts, ih]
@[simp] theorem asBls_map (ns : List Bool) : asBls (ns.map D.bl) = some ns := by
  induction ns with
  | nil => rfl
  | cons n ns ih => simp [asBls, ih]
theorem DVs.ints_inv {w : Wd} : ∀ {ns : List Int} {vs : List V}, DVs M w (ns.map D.int) vs → vs = ns.map V.int
  | [], _, h => by cases h; rfl
  | n :: ns, _, h => by
    cases h with
    | cons a b => cases a; rw [DVs.ints_inv b]; rfl
theorem DVs.bls_inv {w : Wd} : ∀ {ns : List Bool} {vs : List V}, DVs M w (ns.map D.bl) vs → vs = ns.map V.bl
  | [], _, h => by cases h; rfl
  | n :: ns, _, h => by
    cases h with
    | cons a b => cases a; rw [DVs.bls_inv b]; rfl
def oSum : List D → Gh → R D
  | [d], g => match deref g d with
    | .lst xs => match asInts xs with
      | some ns => .ok (.int ns.sum) g
      | none => .bad
    | _ => .bad
  | _, _ => .bad
def oAll : List D → Gh → R D
  | [d], g => match deref g d with
    | .lst xs => match asBls xs with
      | some ns => .ok (.bl (ns.all id)) g
      | none => .bad
    | _ => .bad
  | _, _ => .bad
def oAny : List D → Gh → R D
  | [d], g => match deref g d with
    | .lst xs => match asBls xs with
      | some ns => .ok (.bl (ns.any id)) g
      | none => .bad
    | _ => .bad
  | _, _ => .bad
theorem sum_ok (g : GX M k X) : CallOk M W X (.builtin "sum") oSum := by
  refine ⟨_, cr_sum g.calm, fun w fr env G σ H Q ds vs r hd h => ?_⟩
  unfold oSum at h
  split at h
  · rename_i d
    obtain ⟨v, rfl, q⟩ := DVs.one_inv hd
    have dh := DH.of r q
    generalize deref G d = d' at *
    cases d' <;> try exact h.elim
    rename_i xs
    obtain ⟨a, us, rfl, hs, hd'⟩ := dh.list
    simp only at h
    cases e : asInts xs with
    | none => rw [e] at h; exact h.elim
    | some ns =>
      rw [e] at h
      rw [asInts_eq e] at hd'
      rw [DVs.ints_inv hd'] at hs
      exact ⟨a, ns, rfl, .inl (.inl hs), Post.here h r _ (.int _)⟩
  · exact h.elim
theorem all_ok (g : GX M k X) : CallOk M W X (.builtin "all") oAll := by
  refine ⟨_, cr_all g.calm, fun w fr env G σ H Q ds vs r hd h => ?_⟩
  unfold oAll at h
  split at h
  · rename_i d
    obtain ⟨v, rfl, q⟩ := DVs.one_inv hd
    have dh := DH.of r q
    generalize deref G d = d' at *
    cases d' <;> try exact h.elim
    rename_i xs
    obtain ⟨a, us, rfl, hs, hd'⟩ := dh.list
    simp only at h
    cases e : asBls xs with
    | none => rw [e] at h; exact h.elim
    | some ns =>
      rw [e] at h
      rw [asBls_eq e] at hd'
      rw [DVs.bls_inv hd'] at hs
      exact ⟨a, ns, rfl, .inl (.inl hs), Post.here h r _ (.bl _)⟩
  · exact h.elim
theorem any_ok (g : GX M k X) : CallOk M W X (.builtin "any") oAny := by
  refine ⟨_, cr_any g.calm, fun w fr env G σ H Q ds vs r hd h => ?_⟩
  unfold oAny at h
  split at h
  · rename_i d
    obtain ⟨v, rfl, q⟩ := DVs.one_inv hd
    have dh := DH.of r q
    generalize deref G d = d' at *
    cases d' <;> try exact h.elim
    rename_i xs
    obtain ⟨a, us, rfl, hs, hd'⟩ := dh.list
    simp only at h
    cases e : asBls xs with
    | none => rw [e] at h; exact h.elim
    | some ns =>
      rw [e] at h
      rw [asBls_eq e] at hd'
      rw [DVs.bls_inv hd'] at hs
      exact ⟨a, ns, rfl, .inl (.inl hs), Post.here h r _ (.bl _)⟩
  · exact h.elim

/-! ### list, tuple -/
def seqD : D → Option (List D)
  | .lst xs | .tup xs => some xs
  | _ => none
def oListF : List D → Gh → R (List D)
  | [d], g => match seqD (deref g d) with
    | some xs => .ok xs g
    | none => .bad
  | _, _ => .bad
def oTuple : List D → Gh → R D
  | [d], g => match seqD (deref g d) with
    | some xs => .ok (.tup xs) g
    | none => .bad
  | _, _ => .bad
theorem list_ok (g : GX M k X) : CallF M W X (.type "list") oListF := by
  have len : ∀ {X : Cx} {pins : List (Addr × Obj)} {s : Shared} {σ : L2.St} {H : Hp} {a : Addr} {xs : List V}, True := fun {_ _ _ _ _ _ _} => trivial
  refine ⟨fun vs H Q => ∃ p ys, vs = [.ref p] ∧ (SqL X.K H p ys ∨ SqT X.K H p ys) ∧ (ys.length ≤ sizeLine → ∀ l, H l = none → Q (.ref l) (upd H l (.lst ys))), ?_, fun w fr env G σ H Q ds vs r hd h => ?_⟩
  · intro pins s σ H xs us Q I rv q
    obtain ⟨p, ys, rfl, hs, q⟩ := q
    have hz : ys.length ≤ sizeLine := by
      rcases hs with hs | hs
      · obtain ⟨_, _, _, hz⟩ := I.list hs; exact hz
      · obtain ⟨_, _, _, hz⟩ := I.tuple hs; exact hz
    exact call_list_of pins s σ H _ us Q I rv ⟨p, ys, rfl, hs, q hz⟩
  · unfold oListF at h
    split at h
    · rename_i d
      obtain ⟨v, rfl, q⟩ := DVs.one_inv hd
      have dh := DH.of r q
      generalize deref G d = d' at *
      cases d' <;> try exact h.elim
      · obtain ⟨a, us, rfl, hs, hd'⟩ := dh.tup
        have hs' := SqT.mono r.cold hs
        rw [← g.K] at hs'
        exact ⟨a, us, rfl, .inr hs', fun hz l hl => Post.here h r us l hd' hz hl⟩
      · obtain ⟨a, us, rfl, hs, hd'⟩ := dh.list
        exact ⟨a, us, rfl, .inl (.inl (.inl hs)), fun hz l hl => Post.here h r us l hd' hz hl⟩
    · exact h.elim
theorem tuple_ok (g : GX M k X) : CallOk M W X (.type "tuple") oTuple := by
  refine ⟨_, call_tuple_of, fun w fr env G σ H Q ds vs r hd h => ?_⟩
  unfold oTuple at h
  split at h
  · rename_i d
    obtain ⟨v, rfl, q⟩ := DVs.one_inv hd
    have dh := DH.of r q
    generalize deref G d = d' at *
    cases d' <;> try exact h.elim
    · obtain ⟨a, us, rfl, hs, hd'⟩ := dh.tup
      have hs' := SqT.mono r.cold hs
      rw [← g.K] at hs'
      exact ⟨a, us, rfl, .inr ⟨hs', Post.here h r _ (.tup hs hd')⟩⟩
    · obtain ⟨a, us, rfl, hs, hd'⟩ := dh.list
      exact ⟨a, us, rfl, .inl ⟨.inl (.inl hs), fun l hl => post_tup r hd' h hl⟩⟩
  · exact h.elim

/-! ### repr -/
def reprS (d : D) : Str := (toP d).shown
def rprOk (d : D) : Bool := okD d 64 && (toP d).showable && decide ((reprS d).length ≤ LIM)
def oRepr : List D → Gh → R D
  | [d], g => let d' := deref g d; guardR (rprOk d') (.str (reprS d')) g
  | _, _ => .bad
mutual
theorem noDict : ∀ d : D, (toP d).hasDict = false
  | .non => by simp [toP, PyData.hasDict]
  | .bl _ => by simp [toP, PyData.hasDict]
  | .int _ => by simp [toP, PyData.hasDict]
  | .str _ => by simp [toP, PyData.hasDict]
  | .loc _ => by simp [toP, PyData.hasDict]
  | .fn _ => by simp [toP, PyData.hasDict]
  | .arr _ => by simp [toP, PyData.hasDict]
  | .tup xs => by simp only [toP, PyData.hasDict]; exact noDicts xs
  | .lst xs => by simp only [toP, PyData.hasDict]; exact noDicts xs
theorem noDicts : ∀ ds : List D, PyData.hasDictAll (toPs ds) = false
  | [] => by simp [toPs, PyData.hasDictAll]
  | d :: ds => by simp [toPs, PyData.hasDictAll, noDict d, noDicts ds]
end
def rRepr (K : PySem.W.Frag) : List V → Hp → VK → Prop := fun vs H Q => ∃ v d, vs = [v] ∧ Dp K H v (toP d) ∧ rprOk d = true ∧ Q (.str (reprS d)) H
theorem call_reprD (g : GX M k X) : CallR X (.builtin "repr") (rRepr X.K) := by
  intro pins s σ H vs us Q I rv h
  obtain ⟨v, d, rfl, hd, hr, q⟩ := h
  obtain ⟨u, rfl, ru⟩ := vals1 rv
  unfold rprOk at hr
  simp only [Bool.and_eq_true, decide_eq_true_eq] at hr
  obtain ⟨⟨h1, h2⟩, h3⟩ := hr
  have hz := lim_le h3
  obtain ⟨as, rd⟩ := Dp.reads I (toP d) v u hd ru
  have big : ∀ a, u = .ref a → wpAny (model X.prog X.w) X.A (call (.builtin "repr") [u]) (EP X pins σ Q) X.xe s := fun a e => by
    subst e
    refine repr_of_reads' rd h2 (PyData.noDict_hsm (noDict d)) g.gd ?_ (fun _ _ e => e) (fun h' t tk hk => ⟨.str (reprS d), H, I.kept (t' := tk) hk, ⟨t, rfl⟩, q⟩) hz
    have := (okD_lay d 64 h1).2
    have := g.u65
    omega
  cases d with
  | non =>
    have hd : Dp X.K H v .none := by simpa [toP] using hd
    cases hd; cases ru
    exact PySem.P.repr_of_none ⟨.str (reprS .non), H, I.tok _, ⟨_, by simp [reprS, toP, PyData.shown]; rfl⟩, q⟩
  | bl b =>
    have hd : Dp X.K H v (.bool b) := by simpa [toP] using hd
    cases hd; cases ru
    exact PySem.P.repr_of_bool ⟨.str (reprS (.bl b)), H, I.tok _, ⟨_, by simp [reprS, toP, PyData.shown]; rfl⟩, q⟩
  | int i =>
    have hd : Dp X.K H v (.int i) := by simpa [toP] using hd
    cases hd
    obtain ⟨t, rfl⟩ := ru
    have hb : i.natAbs.log2 < 1920 := by simpa [toP, PyData.showable] using h2
    exact PySem.P.repr_of_int hb ⟨.str (reprS (.int i)), H, I.tok _, ⟨_, by simp [reprS, toP, PyData.shown]; rfl⟩, q⟩
  | str x =>
    have hd : Dp X.K H v (.str x) := by simpa [toP] using hd
    cases hd
    obtain ⟨t, rfl⟩ := ru
    have hz' : (reprText x).length ≤ sizeLine := by simpa [reprS, toP, PyData.shown] using hz
    exact PySem.P.repr_of_str ⟨.str (reprS (.str x)), H, I.tok _, ⟨_, by simp [reprS, toP, PyData.shown]; rfl⟩, q⟩ hz'
  | tup xs =>
    have hd : Dp X.K H v (.tuple (toPs xs)) := by simpa [toP] using hd
    cases hd
    exact big _ ru
  | lst xs =>
    have hd : Dp X.K H v (.list (toPs xs)) := by simpa [toP] using hd
    cases hd
    exact big _ ru
  | loc n => simp [okD] at h1
  | fn n => simp [okD] at h1
  | arr n => simp [okD] at h1
theorem repr_ok (g : GX M k X) : CallOk M W X (.builtin "repr") oRepr := by
  refine ⟨_, call_reprD g, fun w fr env G σ H Q ds vs r hd h => ?_⟩
  unfold oRepr at h
  split at h
  · rename_i d
    obtain ⟨v, rfl, q⟩ := DVs.one_inv hd
    have dh := DH.of r q
    simp only at h
    generalize deref G d = d' at *
    obtain ⟨hb, h⟩ := guard_post (α := D) h
    have hb' := hb
    unfold rprOk at hb'
    simp only [Bool.and_eq_true] at hb'
    have := dh.dp r.cold hb'.1.1
    rw [← g.K] at this
    exact ⟨v, d', rfl, this, hb, Post.here h r _ (.str _)⟩
  · exact h.elim
end
end GL
/-! GL part 10: defs and their calls. -/
namespace GL
open PySem L2
abbrev FM := List D → Gh → R D
def PostC (M : Im) (w : Wd) (fr : List (Addr × HO)) (Q : VK) : R D → Prop
  | .ok d G' => ∀ w' v H', w.Le w' → RG M w' fr G' H' → DV M w' d v → Q v H'
  | _ => False
/-- a def of the program that means m -/
structure FnG (P : Program) (wo : World) (M : Im) (base : Heap) (k : Nat) (f : Addr) (fd : FuncData) (ps : List Str) (m : FM) : Prop where
  run : ∀ (A : Around) (outer : List Env) (s : Shared) (H : Hp) (args : Args) (us : List Value) (vs : List V) (w : Wd) (fr : List (Addr × HO)) (ds : List D) (G : Gh) (Q : VK), Room k A → A.guards = some [] → Env0 P wo M.K M.mg base A outer s H →
    BindsTo s fd args (ps.zip us) → Vals vs us → RG M w fr G H → DVs M w ds vs → PostC M w fr Q (m ds G) → codeAny (model P wo) A (.call (.ref f) args) (CR CX0 outer P wo H s Q fun _ _ _ => False) s
theorem FnG.mono {P : Program} {wo : World} {M : Im} {base : Heap} {j k : Nat} {f : Addr} {fd : FuncData} {ps : List Str} {m : FM} (F : FnG P wo M base j f fd ps m) (h : j ≤ k) : FnG P wo M base k f fd ps m :=
  ⟨fun A outer s H args us vs w fr ds G Q hr => F.run A outer s H args us vs w fr ds G Q (hr.mono h)⟩
def endR : SR → R D
  | .nx _ g => .ok .non g
  | .rt d g => .ok d g
  | .exc x g => .exc x g
  | _ => .bad
/-- what a def means: np parameters, n slots -/
def mFun (np n : Nat) (b : MS) : FM := fun ds g => if ds.length = np then endR (b (ds.map Sl.val ++ List.replicate (n - np) Sl.un) g) else .bad

/-- what stands fast through a law: the program, the world, its image, the base, the level -/
structure Cn where
  P : Program
  wo : World
  M : Im
  base : Heap
  k : Nat
/-- the names' places and kinds as the context has them -/
structure OkX (c : Cn) (N : List Str) (sc : Scope) (fnf : Str → Bool) (X : Cx) : Prop where
  g : GX c.M c.k X
  n : X.N = N
  s : X.env.scope = sc
  f : X.fn = fnf
  e : X.xe = fun _ _ => False
  p : X.prog = c.P
  w : X.w = c.wo
  b : X.base = c.base

theorem slr_start {M : Im} {w : Wd} {n : Nat} : ∀ {ds : List D} {vs : List V}, DVs M w ds vs → SlR M w [] (ds.map Sl.val ++ List.replicate n Sl.un) (vs.map some ++ List.replicate n none)
  | _, _, .nil => by
    induction n with
    | zero => exact .nil
    | succ n ih => simp only [List.map_nil, List.nil_append, List.replicate_succ] at ih ⊢; exact .un ih
  | _, _, .cons a b => .val a (slr_start b)

theorem fnG_of {P : Program} {wo : World} {M : Im} {base : Heap} {k : Nat} {f : Addr} {name qual : Str} {params : Arguments} {body : List Stmt} {scope : Scope} {dV kV doc pm cdv ct oc : Value} {an od : Option Addr}
    {osl : Array (Option Value)} {N ps : List Str} {b : MS} (lk : M.K.lookup f = some ⟨oc, od, .func (PySem.W.fnOf name qual params body scope dV kV doc pm an cdv ct), osl⟩) (hcd : PySem.W.codeIn M.K cdv qual = true) (S : FnScope N ps scope)
    (hbody : ∀ X, OkX ⟨P, wo, M, base, k⟩ N scope (fun _ => true) X → SSs M W0 X body b) :
    FnG P wo M base (k + 1) f (PySem.W.fnOf name qual params body scope dV kV doc pm an cdv ct) ps (mFun ps.length N.length b) := by
  refine ⟨fun A outer s H args us vs w fr ds G Q hr hg e0 hb r rg dvs h => ?_⟩
  unfold mFun at h
  by_cases hl' : ds.length = ps.length
  · rw [if_pos hl'] at h
    have hl : vs.length = ps.length := by rw [← dvs.length]; exact hl'
    have KX : M.K.In s.heap := e0.mod.kin.keeps fun b o e => (e0.bs b o e).1
    have lim : s.heap.NoLimit := e0.mod.nolimit.keeps fun b o e => (e0.bs b o e).1
    have hkind : ∀ y ∈ ps.zip us, scope.names.lookup y.1 = some .local ∨ (scope.names.lookup y.1 = some .cell ∧ ((cellsFrom (s.heap.objs.size + 1) scope.names []).lookup y.1).isSome = true) := fun ⟨n, v⟩ hy => by
      rcases S.par n (List.of_mem_zip hy).1 with q | q
      · exact .inl q
      · exact .inr ⟨q, PySem.W.cellsFrom_some _ _ _ (.inl q)⟩
    refine codeAny_call_function hr.depth (KX _ _ lk) rfl S.co S.gen rfl (PySem.W.codeRec_of KX hcd) (hb _ _ _ _ ?_)
    refine wpAny_newFunctionEnv_cells S.kind hkind fun env he s1 x => ?_
    subst he
    refine ⟨lim.keeps x.toInCall.keep, codeAny_func ?_⟩
    have hr' := hr.deeper (PyProof.Rows.envOfC qual scope s.heap.objs.size f cdv)
    obtain ⟨t, ht, hq⟩ := hbody (cxOf CX0 P wo M.K M.mg base N qual scope f cdv A outer s H fun _ _ _ => False).nox
      ⟨⟨rfl, rfl, rfl, S.nd, hr', hg⟩, rfl, rfl, rfl, rfl, rfl, rfl, rfl⟩
    have I : Inv (cxOf CX0 P wo M.K M.mg base N qual scope f cdv A outer s H fun _ _ _ => False) [] (L2.start N vs) H s1 := inv_start S hr.hd e0 hl r x
    have rs : RS M w fr (ds.map Sl.val ++ List.replicate (N.length - ps.length) Sl.un) G (L2.start N vs) H := by
      refine ⟨[], rg, ?_⟩
      unfold L2.start
      rw [hl]
      exact slr_start dvs
    have key := hq w fr _ G (L2.start N vs) H { nx := fun _ H' => Q .non H', rt := Q } rs (by
      revert h
      cases b (ds.map Sl.val ++ List.replicate (N.length - ps.length) Sl.un) G with
      | nx env' G' => exact fun h w' σ' H' l r' => h w' .non H' l r'.rg .non
      | rt d G' => exact fun h => h
      | bk _ _ => exact fun h => h.elim
      | ct _ _ => exact fun h => h.elim
      | exc _ _ => exact fun h => h.elim
      | bad => exact fun h => h.elim)
    refine wpAny_mono (ht.nox.run [] s1 (L2.start N vs) H _ I key) (fun fl s' hs => ?_) fun e s' hs => hs
    have fin : ∀ {σ' : L2.St} {H' : Hp} {v : V} {u : Value}, Inv (cxOf CX0 P wo M.K M.mg base N qual scope f cdv A outer s H fun _ _ _ => False) [] σ' H' s' → RelV v u → Q v H' → CE outer P wo H s Q u s' :=
      fun {σ' H' v u} J rv q => ⟨v, H', J.os, J.bare, J.base, J.hok, rv, q⟩
    cases fl with
    | ret u =>
      obtain ⟨v, σ', H', J, rv, q⟩ := hs
      exact fin J rv q
    | next =>
      obtain ⟨σ', H', J, q⟩ := hs
      exact fin (v := V.non) (u := Value.none) J rfl q
    | brk =>
      obtain ⟨_, _, _, q⟩ := hs
      exact False.elim q
    | cont =>
      obtain ⟨_, _, _, q⟩ := hs
      exact False.elim q
  · rw [if_neg hl'] at h; exact h.elim

/-! ### calls -/
/-- arguments put in the parameters' order: places in the written ones, the keywords' ones, the defaults -/
def permL {α : Type} (pm : List Nat) (xs : List α) : List α := pm.filterMap fun i => xs[i]?
theorem permL_DVs {M : Im} {w : Wd} {ds : List D} {vs : List V} (h : DVs M w ds vs) : ∀ pm : List Nat, DVs M w (permL pm ds) (permL pm vs)
  | [] => .nil
  | i :: pm => by
    have ih := permL_DVs h pm
    unfold permL at ih ⊢
    simp only [List.filterMap_cons]
    cases e : ds[i]? with
    | none =>
      have : vs[i]? = none := by
        rw [List.getElem?_eq_none_iff] at e ⊢; rw [← h.length]; exact e
      rw [this]; exact ih
    | some d =>
      obtain ⟨v, e2, e3⟩ := h.get e
      rw [e2]
      exact .cons e3 ih
theorem permL_Vals {vs : List V} {us : List Value} (h : Vals vs us) : ∀ pm : List Nat, Vals (permL pm vs) (permL pm us)
  | [] => .nil
  | i :: pm => by
    have ih := permL_Vals h pm
    unfold permL at ih ⊢
    simp only [List.filterMap_cons]
    cases e : vs[i]? with
    | none => rw [Vals.none_of h e]; exact ih
    | some d =>
      obtain ⟨v, e2, e3⟩ := h.get e
      rw [e2]
      exact .cons e3 ih
/-- how a call with n written arguments and keywords ks binds; dd: the defaults used -/
structure Bnd (M : Im) (fd : FuncData) (ps : List Str) (n : Nat) (ks : List Str) (pm : List Nat) (dd : List D) : Prop where
  ex : ∃ (dv : List V) (du : List Value), Vals dv du ∧ (∀ w, DVs M w dd dv) ∧ ∀ (s : Shared) (us ws : List Value), M.K.In s.heap → us.length = n → ws.length = ks.length → BindsTo s fd ⟨us, ks.zip ws⟩ (ps.zip (permL pm (us ++ ws ++ du)))
theorem Bnd.plain {M : Im} {fd : FuncData} {ps ks : List Str} {n : Nat} {pm : List Nat} (h : ∀ us ws : List Value, us.length = n → ws.length = ks.length → bindArgs fd ⟨us, ks.zip ws⟩ = pure (ps.zip (permL pm (us ++ ws ++ [])))) : Bnd M fd ps n ks pm [] :=
  ⟨[], [], .nil, fun _ => .nil, fun s us ws _ h1 h2 => .of_eq (h us ws h1 h2)⟩
/-- keywords -/
def SK (M : Im) (W : XW) (X : Cx) (ks : List Keyword) (m : ML) : Prop := ∃ t, PK X ks t ∧ ∀ w fr env G σ H Q, RS M w fr env G σ H → Post M W fr env σ w (PL' M Q) (m env G) → t σ H Q
section
variable {M : Im} {W : XW} {X : Cx} {k j n : Nat} {e : Expr} {es : List Expr} {kws : List Keyword} {ml mk : ML} {ma : ME} {x : Str} {p pos kpos : Pos} {f : Addr} {fd : FuncData} {ps ks : List Str} {m : FM} {pm : List Nat} {dd : List D} {nm : Option Str}
theorem sk_nil : SK M W X [] lNil := ⟨_, pk_nil, fun w fr env G σ H Q rs h => Post.here h rs [] .nil⟩
theorem sk_cons (ha : SE M W X e ma) (hr : SK M W X kws mk) : SK M W X (⟨nm, e, kpos⟩ :: kws) (lCons ma mk) := by
  obtain ⟨ta, a1, a2⟩ := ha
  obtain ⟨tb, b1, b2⟩ := hr
  refine ⟨_, pk_cons a1 b1, fun w fr env G σ H Q rs h => ?_⟩
  refine a2 w fr env G σ H _ rs ((Post.bind h).imp fun x w1 G1 H1 l1 r1 h1 vx dx => ?_)
  exact b2 w1 fr env G1 σ H1 _ r1 ((Post.bind h1).imp fun xs w2 G2 H2 l2 r2 h2 vs dvs => Post.here h2 r2 _ (.cons (dx.up l2) dvs))
/-- an exception is not looked at -/
def noX {α : Type} : R α → R α
  | .ok a g => .ok a g
  | _ => .bad
@[simp] theorem noX_ok {α : Type} (a : α) (g : Gh) : noX (R.ok a g) = .ok a g := rfl
/-- f(..): l the written arguments, lk the keywords' -/
def eCall (m : FM) (n : Nat) (nk : Nat) (pm : List Nat) (dd : List D) (l lk : ML) : ME := fun env g => (l env g).bind fun ds g1 => (lk env g1).bind fun es g2 => if ds.length = n ∧ es.length = nk then noX (m (permL pm (ds ++ es ++ dd)) g2) else .bad

/-- the callee runs -/
theorem run_G (F : FnG X.prog X.w M X.base j f fd ps m) (hr : Room j X.A) (g : GX M k X) (hb : Bnd M fd ps n ks pm dd) {pins : List (Addr × Obj)} {σ : L2.St} {H : Hp} {s : Shared} {Q : VK} {us ws : List Value} {vs zs : List V} {w : Wd} {fr : List (Addr × HO)} {env : Env'} {G : Gh} {ds es' : List D}
    (I : Inv X pins σ H s) (r : Vals vs us) (rz : Vals zs ws) (l1 : ds.length = n) (l2 : es'.length = ks.length) (rs : RS M w fr env G σ H) (d1 : DVs M w ds vs) (d2 : DVs M w es' zs)
    (h : Post M W fr env σ w (PE' M Q) (noX (m (permL pm (ds ++ es' ++ dd)) G))) : wpAny (model X.prog X.w) X.A (call (.ref f) us (ks.zip ws)) (EP X pins σ Q) X.xe s := by
  obtain ⟨dv, du, q1, q2, q3⟩ := hb.ex
  have rv := permL_Vals ((r.append rz).append q1) pm
  have rd := permL_DVs ((d1.append d2).append (q2 w)) pm
  obtain ⟨os, rg, sl⟩ := rs
  have e0 := I.env0
  rw [g.K, g.mg] at e0
  have kin := I.kIn
  rw [g.K] at kin
  refine wpAny_call (codeAny_mono (F.run X.A X.stack s H ⟨us, ks.zip ws⟩ _ _ w (os ++ fr) _ G Q hr g.gd e0 (q3 s us ws kin ?_ ?_) rv rg rd ?_) fun r s' hq => ?_)
  · rw [← r.length, ← d1.length]; exact l1
  · rw [← rz.length, ← d2.length]; exact l2
  · revert h
    cases m (permL pm (ds ++ es' ++ dd)) G with
    | ok d G' => exact fun h w' v H' l rg' dv => h w' H' l ⟨os, rg', sl.up l⟩ v dv
    | exc x G' => exact fun h => h
    | bad => exact fun h => h
  · cases r with
    | error e => exact False.elim hq
    | ok fl =>
      cases fl with
      | ret u => exact I.after hq
      | next => exact False.elim hq
      | brk => exact False.elim hq
      | cont => exact False.elim hq
theorem wpAny_of_bind_pure {α β : Type} {Mo : Model} {A : Around} {E : Value → Shared → Prop} {s : Shared} {t : Sem α} {f : α → β} {Q : β → Shared → Prop} (h : wpAny Mo A (t >>= fun a => pure (f a)) Q E s) : wpAny Mo A t (fun a s' => Q (f a) s') E s := fun Γ p hΓ => by
  have := h Γ p hΓ
  rw [Sem.wp_bind'] at this
  exact this
/-- a global name that is a def of the program, called -/
theorem se_call (F : FnG X.prog X.w M X.base j f fd ps m) (hj : j ≤ k) (g : GX M k X) (hb : Bnd M fd ps n ks pm dd) (hg : Gl X x) (hm : M.mg x = some (.ref f)) (hk : PySem.W.keepIn M.K (.ref f) = true)
    (ha : SA M W X es ml) (hkw : SK M W X kws mk) (hdb : (x == ("__debug__" : Str)) = false)
    (hst : starEach es X.env = es.map fun e => (false, eval e X.env)) (hks : kws.map (·.arg) = ks.map some) :
    SE M W X (.Call (.Name x p) es kws pos) (eCall m n ks.length pm dd ml mk) := by
  obtain ⟨t, a1, a2⟩ := ha
  obtain ⟨u, b1, b2⟩ := hkw
  have hr := g.room.mono hj
  have kk : PySem.W.keepIn X.K (.ref f) = true := by rw [g.K]; exact hk
  have mm : X.mg x = some (.ref f) := by rw [g.mg]; exact hm
  -- the shapes
  have ek : keywordEach kws X.env = kws.map fun q => (q.arg, eval q.value X.env) := by
    clear hks b1 b2
    induction kws with
    | nil => rfl
    | cons q r ih => obtain ⟨a, v, pp⟩ := q; unfold keywordEach; rw [ih]; rfl
  have fk : (backToKw pos (keywordEach kws X.env)).filterMap (·.1) = ks := by
    rw [ek]; unfold backToKw; rw [List.map_map, List.filterMap_map]
    have : (kws.filterMap fun q => q.arg) = (kws.map (·.arg)).filterMap (fun o => o) := by rw [List.filterMap_map]; rfl
    show (kws.filterMap fun q => q.arg) = ks
    rw [this, hks, List.filterMap_map]
    exact List.filterMap_some
  have hall : (backToKw pos (keywordEach kws X.env)).all (·.1.isSome) = true := by
    rw [ek]; unfold backToKw
    rw [List.map_map, List.all_map]
    rw [List.all_eq_true]
    intro q hq
    have : q.arg ∈ kws.map (·.arg) := List.mem_map.mpr ⟨q, hq, rfl⟩
    rw [hks] at this
    obtain ⟨y, _, e⟩ := List.mem_map.mp this
    show q.arg.isSome = true
    rw [← e]; rfl
  have hnone : (backToKw pos (keywordEach kws X.env)).any (·.1.isNone) = false := by
    rw [List.any_eq_false]
    intro q hq
    have := List.all_eq_true.mp hall q hq
    cases e : q.1 with
    | none => rw [e] at this; cases this
    | some _ => simp
  have hst' : ∀ l : List Expr, starEach l X.env = (l.map fun e => (false, eval e X.env)) → (backTo pos (starEach l X.env)).any (·.1) = false := fun l e => by
    rw [e]; unfold backTo; rw [List.map_map, List.any_map, List.any_eq_false]; intro q _; simp
  refine ⟨fun σ H Q => t σ H fun vs H1 => u σ H1 fun zs H2 => ∃ w fr env G ds es', RS M w fr env G σ H2 ∧ DVs M w ds vs ∧ DVs M w es' zs ∧ ds.length = n ∧ es'.length = ks.length ∧ Post M W fr env σ w (PE' M Q) (noX (m (permL pm (ds ++ es' ++ dd)) G)), ⟨fun pins s σ H Q I h => ?_⟩, fun w fr env G σ H Q rs h => ?_⟩
  · refine wpAny_Call_Name_kw (ld_glob I hg mm ?_ hdb)
    cases es with
    | nil =>
      refine PySem.W.callWith_KW0 (h₀ := X.base) I.ok.mod.kin kk hall ?_ (by rw [hnone]; rfl)
      have h0 : wpAny (model X.prog X.w) X.A (pure [] : Sem (List Value)) _ X.xe s := a1.run pos pins s σ H _ I h
      have h1 := wpAny_bind (m := (pure [] : Sem (List Value))) (f := fun us => evalAll ((backToKw pos (keywordEach kws X.env)).map (·.2)) >>= fun ws => pure (us, ws)) (Q := fun (p : List Value × List Value) s2 => X.K.In s2.heap ∧ wpAny (model X.prog X.w) X.A (call (.ref f) p.1 (ks.zip p.2)) (EP X pins σ Q) X.xe s2)
        (thn h0 fun us s1 ⟨vs, H1, I1, r, q⟩ => wpAny_bind (thn (b1.run pos pins s1 σ H1 _ I1 q) fun ws s2 ⟨zs, H2, I2, rz, w, fr, env, G, ds, es', rs, d1, d2, l1, l2, h⟩ => wpAny_pure ⟨I2.kIn, run_G F hr g hb I2 r rz l1 l2 rs d1 d2 h⟩))
      rw [pure_bind] at h1
      rw [fk]
      exact wpAny_of_bind_pure h1
    | cons e er =>
      have he : starEach (e :: er) X.env = (false, eval e X.env) :: starEach er X.env := by
        have : starEach er X.env = er.map fun e => (false, eval e X.env) := by
          cases e <;> first | exact (List.cons.inj hst).2 | (exfalso; have := (List.cons.inj hst).1; cases (Prod.mk.inj this).1)
        rw [this]; exact hst
      refine PySem.W.callWith_KW (h₀ := X.base) I.ok.mod.kin kk hall (thn (a1.run pos pins s σ H _ I h) fun us s1 ⟨vs, H1, I1, r, q⟩ => ?_) (by rw [hst' _ hst, hnone]; rfl) he
      refine thn (b1.run pos pins s1 σ H1 _ I1 q) fun ws s2 ⟨zs, H2, I2, rz, w, fr, env, G, ds, es', rs, d1, d2, l1, l2, h⟩ => ⟨I2.kIn, ?_⟩
      rw [fk]
      exact run_G F hr g hb I2 r rz l1 l2 rs d1 d2 h
  · refine a2 w fr env G σ H _ rs ((Post.bind h).imp fun ds w1 G1 H1 l1 r1 h1 vs d1 => ?_)
    refine b2 w1 fr env G1 σ H1 _ r1 ((Post.bind h1).imp fun es' w2 G2 H2 l2 r2 h2 zs d2 => ?_)
    by_cases hl : ds.length = n ∧ es'.length = ks.length
    · rw [if_pos hl] at h2
      exact ⟨w2, fr, env, G2, ds, es', r2, d1.up l2, d2, hl.1, hl.2, h2⟩
    · rw [if_neg hl] at h2; exact h2.elim
end
end GL
/-! GL part 11: a law's end. -/
namespace GL
open PySem L2 PyProof.Rows

/-- the abstract heap at the law's entry: the script alone, or nothing where it is a written object -/
def scriptH (K : PySem.W.Frag) (a : Addr) (o : Obj) (xs : List V) : Hp := fun b => match K.lookup a with
  | some _ => none
  | none => if b = a then some (.frz o (.lst xs)) else none

/-- the law's def, called with the script -/
theorem law_G {P : Program} {wo : World} {M : Im} {mb : Str → Option Value} {k : Nat} {fa a : Addr} {fd : FuncData} {x : Str} {m : FM} {s : Shared} {vs : List Value} {ns : List Int}
    (hK : M.K.In s.heap) (hG : s.heap.Ns mainGlobals M.mg) (hB : s.heap.Ns builtinsNs mb) (hBB : ∀ y : Str, y ≠ "__name__" → mb y = bootBuiltins y) (hL : s.heap.NoLimit) (hgen : s.gens = #[])
    (ha : s.heap.get? a = some { cls := .type "list", data := .seq vs.toArray }) (hi : IntsAre vs ns) (hn : ns.length ≤ sizeLine) (hr : Room k callerA)
    (F : ∀ base : Heap, M.K.In base → base.Ns mainGlobals M.mg → FnG P wo M base k fa fd [x] m) (hb : ∀ (t : Shared) (u : Value), BindsTo t fd ⟨[u], []⟩ [(x, u)])
    (hm : ∃ G', m [.arr ns] [] = .ok (.bl true) G') :
    codeAny (model P wo) callerA (.call (.ref fa) ⟨[.ref a], []⟩) (fun r s' => r = .ok (.ret (.bool true)) ∧ OldK s.heap s'.heap ∧ s'.os = s.os ∧ AllBare s'.gens) s := by
  obtain ⟨G', hm⟩ := hm
  have hv := vals_ints hi
  let ob : Obj := { cls := .type "list", data := .seq vs.toArray }
  let H : Hp := scriptH M.K a ob (ns.map V.int)
  have shape : ∀ b u, H b = some u → b = a ∧ u = .frz ob (.lst (ns.map V.int)) ∧ M.K.lookup a = none := by
    intro b u e
    have e : scriptH M.K a ob (ns.map V.int) b = some u := e
    unfold scriptH at e
    cases q : M.K.lookup a with
    | some _ => rw [q] at e; cases e
    | none =>
      rw [q] at e
      by_cases hba : b = a
      · simp only [hba, if_true] at e; cases e; exact ⟨hba, rfl, rfl⟩
      · simp only [hba, if_false] at e; cases e
  have okH : HOk P wo H s.heap := by
    intro b u e
    obtain ⟨rfl, rfl, _⟩ := shape b u e
    exact ⟨ha, by rw [List.length_map]; exact hn, vs, _, hv, ha⟩
  have sq : SqL M.K H a (ns.map V.int) := by
    cases q : M.K.lookup a with
    | none =>
      refine .inl (.inr ⟨ob, ?_⟩)
      show scriptH M.K a ob (ns.map V.int) a = _
      unfold scriptH
      rw [q]
      exact if_pos rfl
    | some o =>
      have e := hK a o q
      rw [ha] at e
      cases e
      exact .inr ⟨_, vs.toArray, _, q, rfl, rfl, rfl, by rw [List.size_toArray, hi.length]; exact hn, by simpa using hv⟩
  have dictFree : ∀ {b : Addr} {o : Obj} {es : Array DictEntry} {ep : Nat}, s.heap.get? b = some o → o.data = .dict es ep → H b = none := by
    intro b o es ep e d
    cases q : H b with
    | none => rfl
    | some u =>
      obtain ⟨rfl, _, _⟩ := shape b u q
      rw [ha] at e
      cases e
      cases d
  have nsAt : ∀ {b : Addr} {f : Str → Option Value}, s.heap.Ns b f → (hidT s.heap H).Ns b f := by
    intro b f n
    obtain ⟨o, es, ep, e, d, rest⟩ := n
    exact ⟨o, es, ep, hidT_get e (dictFree e d), d, rest⟩
  have inB : M.K.In (hidT s.heap H) := by
    intro b o e
    refine hidT_get (hK b o e) ?_
    cases q : H b with
    | none => rfl
    | some u =>
      obtain ⟨rfl, _, z⟩ := shape b u q
      rw [z] at e; cases e
  have md : Mod M.K M.mg (hidT s.heap H) := by
    obtain ⟨mc, c1, c2⟩ := hL
    exact ⟨inB, nsAt hG, ⟨mb, nsAt hB, hBB⟩, mc, nsAt c1, c2⟩
  have env0 : Env0 P wo M.K M.mg (hidT s.heap H) callerA [] s H := by
    refine ⟨rfl, md, fun b o e => of_hidT e, Nat.le_of_eq (hidT_size _ _), trivial, fun b q => ?_, okH, .of_eq hgen⟩
    have q : b ∈ ([] : List Addr) := q
    cases q
  let w0 : Wd := ⟨H, []⟩
  have rg : RG M w0 [] [] H := by
    refine ⟨fun _ _ e => e, rfl, fun n o b e => ?_, fun p q => ?_, List.nodup_nil, fun b q => ?_⟩
    · simp at e
    · cases q
    · have q : b ∈ ([] : List Addr) := q
      cases q
  have post : PostC M w0 [] (fun v _ => v = .bl true) (m [.arr ns] []) := by
    rw [hm]
    intro w' v H' _ _ dv
    cases dv
    rfl
  have run := (F _ inB (nsAt hG)).run callerA [] s H ⟨[.ref a], []⟩ [.ref a] [.ref a] w0 [] [.arr ns] [] _ hr rfl env0 (hb s (.ref a)) (.cons rfl .nil) rg (.cons (.arr sq) .nil) post
  refine codeAny_mono run fun r s' h => ?_
  cases r with
  | error e => exact False.elim h
  | ok fl =>
    cases fl <;> try exact False.elim h
    obtain ⟨v, H', os, bare, un, hok', rv, q⟩ := h
    have q : v = .bl true := q
    subst q
    cases rv
    refine ⟨rfl, OldK.of_keep fun b o e => ?_, os, bare⟩
    cases z : H b with
    | none => exact un.keep b o e z (by intro q; have q : b ∈ ([] : List Addr) := q; cases q) (by simp)
    | some u =>
      obtain ⟨rfl, rfl, _⟩ := shape b u z
      have z2 := un.frzs b ob _ z
      obtain ⟨e2, _⟩ := hok' b _ z2
      rw [ha] at e
      cases e
      exact e2

/-- the goal that the head leaves -/
theorem walk_G {l : PySem.W.OpenLaw} {n k : Nat} {q : Program} {loose : List Str} {XP : (Str → Option Value) → Heap → Prop} {YP : World → Heap → Prop} {d : DefRec} {K : Params → PySem.W.Frag} {x : Str} {m : FM}
    (hn : l.most = some n) (hz : n ≤ sizeLine) (hdf : d.params.defaults = []) (hr : Room k callerA) (hY : ∀ (w : World) (h : Heap), YP w h → (K w.params).In h)
    (F : ∀ (w : World) (mg : Str → Option Value) (fa : Addr) (h : Heap), (K w.params).In h → h.Ns mainGlobals mg → mg d.name = some (.ref fa) →
      ∃ (fs : Nat → Option Addr) (fd : FuncData), (∀ (s : Shared) (u : Value), BindsTo s fd ⟨[u], []⟩ [(x, u)]) ∧
        ∀ base : Heap, (K w.params).In base → base.Ns mainGlobals mg → FnG l.prog w ⟨K w.params, mg, fs⟩ base k fa fd [x] m)
    (hm : ∀ ns : List Int, ns.length ≤ n → ∃ G', m [.arr ns] [] = .ok (.bl true) G') :
    PySem.W.WalkO q loose XP YP l.row.toRowW d [] (fun f vs => PySem.call f vs) := by
  refine Att.attach_call hn hdf fun w s₀ s₁ mg mb fa o pm cd doc a vs ns G Y ho hd hcd hmg hobj hints hlen hg => ?_
  obtain ⟨fs, fd, hb, hF⟩ := F w mg fa _ (hY w _ Y) G.T.g hmg
  exact law_G (M := ⟨K w.params, mg, fs⟩) (hY w _ Y) G.T.g G.T.b G.T.builtins G.T.nolimit hg hobj hints (Nat.le_trans hlen hz) hr hF hb (hm ns hlen)
end GL
/-! GL part 12: the rules as derivations use them: side conditions by looks at the names. -/
namespace GL
open PySem L2 PyProof.Rows
def isVis : Option NameKind → Bool
  | some .local | some .cell | some .free => true
  | _ => false
def chkV (N : List Str) (sc : Scope) (i : Nat) (x : Str) : Bool := decide (N[i]? = some x) && isVis (sc.names.lookup x) && !(x == ("__debug__" : Str)) && !(x == ("__classdict__" : Str))
def chkG (sc : Scope) (x : Str) : Bool := decide (sc.names.lookup x = some .globalImplicit) && !(x == ("__debug__" : Str)) && !decide (x = ("__name__" : Str))
def chkT (N : List Str) (sc : Scope) (fnf : Str → Bool) (i : Nat) (x : Str) : Bool := decide (N[i]? = some x) && (decide (sc.names.lookup x = some .local) || (decide (sc.names.lookup x = some .cell) && fnf x))
/-- whether a comprehension given to a name is laid by the short way -/
def chkSw (sc : Scope) (y : Str) (py pos : Pos) (scope : Scope) : Bool := decide (sc.names.lookup y = some .local) && (py.line == pos.line) && !(scope.names.any fun p => p.1 == y && (p.2 == .local || p.2 == .cell))
def isFnK : ScopeKind → Bool
  | .function => true
  | _ => false
theorem isFnK_eq {k : ScopeKind} (h : isFnK k = true) : k = .function := by cases k <;> first | rfl | cases h
abbrev allT : Str → Bool := fun _ => true

section
variable {c : Cn} {W : XW} {N : List Str} {sc : Scope} {fnf : Str → Bool} {X : Cx} {a b d e : Expr} {es : List Expr} {ma mb mc : ME} {na nb nc : MT} {ml mk : ML} {pos p pos' : Pos} {x y : Str} {i j : Nat}
theorem chkG_gl (o : OkX c N sc fnf X) (h : chkG sc x = true) : Gl X x ∧ (x == ("__debug__" : Str)) = false ∧ x ≠ "__name__" := by
  unfold chkG at h
  simp only [Bool.and_eq_true, decide_eq_true_eq, Bool.not_eq_true', decide_eq_false_iff_not] at h
  refine ⟨?_, h.1.2, h.2⟩
  unfold Gl Env.kindOf
  rw [o.s]; exact h.1.1
theorem w_lv (o : OkX c N sc fnf X) (i : Nat) (h : chkV N sc i x = true) : SE c.M W X (.Name x pos) (eLv i) := by
  unfold chkV at h
  simp only [Bool.and_eq_true, decide_eq_true_eq, Bool.not_eq_true'] at h
  refine se_lv (by rw [o.n]; exact h.1.1.1) ?_ h.1.2 h.2
  unfold Vis
  rw [o.s]
  have := h.1.1.2
  cases q : sc.names.lookup x with
  | none => rw [q] at this; cases this
  | some k => rw [q] at this; cases k <;> simp [isVis] at this ⊢
theorem w_glob (o : OkX c N sc fnf X) {dd : D} {v : V} {u : Value} (h : chkG sc x = true) (hm : c.M.mg x = some u) (r : RelV v u) (hv : ∀ w, DV c.M w dd v) : SE c.M W X (.Name x pos) (eC dd) :=
  se_glob o.g (chkG_gl o h).1 hm r hv (chkG_gl o h).2.1
theorem w_bin (o : OkX c N sc fnf X) {op : Operator} (ha : SE c.M W X a ma) (hb : SE c.M W X b mb) : SE c.M W X (.BinOp a op b pos) (eBin op ma mb) := se_bin o.g ha hb
theorem w_cmp (o : OkX c N sc fnf X) {op : CmpOp} (ha : SE c.M W X a ma) (hb : SE c.M W X b mb) (hm : behindInMarks op b = false) : SE c.M W X (.Compare a [op] [b] pos) (eCmp op ma mb) := se_cmp o.g ha hb hm
theorem w_tcmp (o : OkX c N sc fnf X) {op : CmpOp} (ha : SE c.M W X a ma) (hb : SE c.M W X b mb) (hm : behindInMarks op b = false) : ST c.M W X (.Compare a [op] [b] pos) (tV (eCmp op ma mb)) := st_cmp o.g ha hb hm
theorem w_chain (o : OkX c N sc fnf X) {op op' : CmpOp} (ha : SE c.M W X a ma) (hb : SE c.M W X b mb) (hc : SE c.M W X d mc) (hm : lastMarks [op, op'] [b, d] = false) : SE c.M W X (.Compare a [op, op'] [b, d] pos) (eChain op op' ma mb mc) := se_chain o.g ha hb hc hm
theorem w_tchain (o : OkX c N sc fnf X) {op op' : CmpOp} (ha : SE c.M W X a ma) (hb : SE c.M W X b mb) (hc : SE c.M W X d mc) (hm : lastMarks [op, op'] [b, d] = false) : ST c.M W X (.Compare a [op, op'] [b, d] pos) (tV (eChain op op' ma mb mc)) := st_chain o.g ha hb hc hm
theorem w_neg (o : OkX c N sc fnf X) (ha : SE c.M W X a ma) : SE c.M W X (.UnaryOp .USub a pos) (eNeg ma) := se_neg o.g ha
theorem w_sub (o : OkX c N sc fnf X) (ha : SE c.M W X a ma) (hb : SE c.M W X b mb) (hs : PlainIx b) : SE c.M W X (.Subscript a b pos) (eSub ma mb) := se_sub o.g ha hb hs

/-! ### statements -/
theorem chkT_of (o : OkX c N sc fnf X) (h : chkT N sc fnf i x = true) : X.N[i]? = some x ∧ Loc X.env.scope x ∧ (X.fn x = true ∨ X.env.scope.names.lookup x = some .local) := by
  unfold chkT at h
  simp only [Bool.and_eq_true, Bool.or_eq_true, decide_eq_true_eq] at h
  refine ⟨by rw [o.n]; exact h.1, ?_, ?_⟩
  · unfold L2.Loc
    rw [o.s]
    rcases h.2 with q | q
    · exact .inl q
    · exact .inr q.1
  · rcases h.2 with q | q
    · exact .inr (by rw [o.s]; exact q)
    · exact .inl (by rw [o.f]; exact q.2)
theorem w_set (o : OkX c N sc fnf X) (i : Nat) (h : chkT N sc fnf i x = true) (ha : SE c.M W X a ma) (hs : swapsWith a (some (.Name x pos')) pos.line X.env = pure false) : SS c.M W X (.Assign [.Name x pos'] a pos) (sSet i ma) :=
  ss_set o.g (chkT_of o h).1 (chkT_of o h).2.1 ha hs (chkT_of o h).2.2
theorem w_setOwn (o : OkX c N sc fnf X) (i : Nat) (h : chkT N sc fnf i x = true) (ha : SF c.M W X a ml) (hs : swapsWith a (some (.Name x pos')) pos.line X.env = pure false) : SS c.M W X (.Assign [.Name x pos'] a pos) (sSetOwn i ml) :=
  ss_setOwn o.g (chkT_of o h).1 (chkT_of o h).2.1 ha hs (chkT_of o h).2.2
theorem w_name (o : OkX c N sc fnf X) (i : Nat) (h : chkT N sc fnf i x = true) : SG c.M X (.Name x pos) [i] (gNm i) :=
  sg_name o.g (chkT_of o h).1 (chkT_of o h).2.1 (chkT_of o h).2.2
theorem w_tup (o : OkX c N sc fnf X) {kk n : Nat} {m : MGs} {ts : List Nat} (h : SGs c.M X es ts m) (hn : (assignEach es X.env).length = n) (hst : (assignEach es X.env).findIdx? (·.1) = none) : SG c.M X (.Tuple es kk pos) ts (gTp n m) := sg_tup o.g h hn hst
theorem w_par (o : OkX c N sc fnf X) (i j : Nat) {px py pt : Pos} {kt k2 pt2} (hi : chkT N sc fnf i x = true) (hj : chkT N sc fnf j y = true) (hij : i ≠ j) (hx : decide (sc.names.lookup x = some .local) = true) (hy : decide (sc.names.lookup y = some .local) = true) (ha : SA c.M W X [a, b] ml)
    (hw : swappedStores [.Tuple [.Name x px, .Name y py] kt pt] (.Tuple [a, b] k2 pt2) X.env = pure (some [x, y]))
    (hs : swapsWithSole [.Tuple [.Name x px, .Name y py] kt pt] (.Tuple [a, b] k2 pt2) pos.line X.env = pure false) :
    SS c.M W X (.Assign [.Tuple [.Name x px, .Name y py] kt pt] (.Tuple [a, b] k2 pt2) pos) (sPar i j ml) :=
  ss_par o.g (chkT_of o hi).1 (chkT_of o hj).1 hij (by rw [o.s]; exact of_decide_eq_true hx) (by rw [o.s]; exact of_decide_eq_true hy) ha hw hs
theorem passes (o : OkX c N sc fnf X) : PassesOwn (model X.prog X.w) X.A X.env X.xe := by
  rw [o.e]; exact PassesOwn.never
theorem w_while (o : OkX c N sc fnf X) {body : List Stmt} {s1 : MS} (hc : ST c.M W X a na) (hb : SSs c.M W X body s1) : SS c.M W X (.While a body [] pos) (sWhile na s1) := ss_while (passes o) hc hb
theorem w_for (o : OkX c N sc fnf X) {tg it : Expr} {body : List Stmt} {s1 : MS} {mi : MI} {mg : MG} {ts : List Nat} (hi : SI c.M W X tg it mi) (hg : SG c.M X tg ts mg) (hb : SSs c.M W X body s1) (hs : ∀ x, foldedSetIterable it X.env x = pure x) :
    SS c.M W X (.For tg it body [] pos) (sFor mi mg s1) := ss_for o.g (passes o) hi hg hb hs
theorem w_ival (o : OkX c N sc fnf X) {tg : Expr} (ha : SE c.M W X a ma) : SI c.M W X tg a (iV ma) := si_val o.g ha
theorem w_range1 (o : OkX c N sc fnf X) {tg : Expr} (h : chkG sc "range" = true) (hm : c.M.mg "range" = none) (ha : SE c.M W X a ma) (hs : starEach [a] X.env = [(false, eval a X.env)]) : SI c.M W X tg (.Call (.Name "range" p) [a] [] pos) (iRange1 ma) :=
  si_range1 o.g (chkG_gl o h).1 hm ha hs
theorem w_range2 (o : OkX c N sc fnf X) {tg : Expr} (h : chkG sc "range" = true) (hm : c.M.mg "range" = none) (ha : SE c.M W X a ma) (hb : SE c.M W X b mb) (hs : starEach [a, b] X.env = [(false, eval a X.env), (false, eval b X.env)]) (hs2 : starEach [b] X.env = [(false, eval b X.env)]) : SI c.M W X tg (.Call (.Name "range" p) [a, b] [] pos) (iRange2 ma mb) :=
  si_range2 o.g (chkG_gl o h).1 hm ha hb hs hs2

/-! ### built-in functions -/
theorem bt_abs : bootBuiltins "abs" = some (.builtin "abs") := by decide +kernel
theorem bt_int : bootBuiltins "int" = some (.type "int") := by decide +kernel
theorem bt_len : bootBuiltins "len" = some (.builtin "len") := by decide +kernel
theorem bt_min : bootBuiltins "min" = some (.builtin "min") := by decide +kernel
theorem bt_max : bootBuiltins "max" = some (.builtin "max") := by decide +kernel
theorem bt_sum : bootBuiltins "sum" = some (.builtin "sum") := by decide +kernel
theorem bt_all : bootBuiltins "all" = some (.builtin "all") := by decide +kernel
theorem bt_any : bootBuiltins "any" = some (.builtin "any") := by decide +kernel
theorem bt_repr : bootBuiltins "repr" = some (.builtin "repr") := by decide +kernel
theorem bt_list : bootBuiltins "list" = some (.type "list") := by decide +kernel
theorem bt_tuple : bootBuiltins "tuple" = some (.type "tuple") := by decide +kernel
theorem bt_sorted : bootBuiltins "sorted" = some (.builtin "sorted") := by decide +kernel
theorem w_bi (o : OkX c N sc fnf X) {bid : String} {f : List D → Gh → R D} (hc : CallOk c.M W X (.builtin bid) f) (hv : bootBuiltins x = some (.builtin bid)) (h : chkG sc x = true) (hm : c.M.mg x = none) (ha : SA c.M W X (e :: es) ml)
    (he : starEach (e :: es) X.env = (false, eval e X.env) :: starEach es X.env) (hpl : (backTo pos (starEach es X.env)).any (·.1) = false) : SE c.M W X (.Call (.Name x p) (e :: es) [] pos) (eBi f ml) :=
  se_callB o.g hc (chkG_gl o h).1 hm hv ha (chkG_gl o h).2.2 (chkG_gl o h).2.1 he hpl
theorem w_ty (o : OkX c N sc fnf X) {T : String} {f : List D → Gh → R D} (hc : CallOk c.M W X (.type T) f) (hv : bootBuiltins x = some (.type T)) (h : chkG sc x = true) (hm : c.M.mg x = none) (ha : SA c.M W X (e :: es) ml)
    (he : starEach (e :: es) X.env = (false, eval e X.env) :: starEach es X.env) (hpl : (backTo pos (starEach es X.env)).any (·.1) = false) : SE c.M W X (.Call (.Name x p) (e :: es) [] pos) (eBi f ml) :=
  se_callTy o.g hc (chkG_gl o h).1 hm hv ha (chkG_gl o h).2.2 (chkG_gl o h).2.1 he hpl
theorem w_tyF (o : OkX c N sc fnf X) {T : String} {f : List D → Gh → R (List D)} (hc : CallF c.M W X (.type T) f) (hv : bootBuiltins x = some (.type T)) (h : chkG sc x = true) (hm : c.M.mg x = none) (ha : SA c.M W X (e :: es) ml)
    (he : starEach (e :: es) X.env = (false, eval e X.env) :: starEach es X.env) (hpl : (backTo pos (starEach es X.env)).any (·.1) = false) : SF c.M W X (.Call (.Name x p) (e :: es) [] pos) (lBi f ml) :=
  sf_callTy o.g hc (chkG_gl o h).1 hm hv ha (chkG_gl o h).2.2 (chkG_gl o h).2.1 he hpl
theorem w_biF (o : OkX c N sc fnf X) {bid : String} {f : List D → Gh → R (List D)} (hc : CallF c.M W X (.builtin bid) f) (hv : bootBuiltins x = some (.builtin bid)) (h : chkG sc x = true) (hm : c.M.mg x = none) (ha : SA c.M W X (e :: es) ml)
    (he : starEach (e :: es) X.env = (false, eval e X.env) :: starEach es X.env) (hpl : (backTo pos (starEach es X.env)).any (·.1) = false) : SF c.M W X (.Call (.Name x p) (e :: es) [] pos) (lBi f ml) :=
  sf_callB o.g hc (chkG_gl o h).1 hm hv ha (chkG_gl o h).2.2 (chkG_gl o h).2.1 he hpl

/-! ### defs of the program -/
/-- what a call of the def x in one of its shapes may lean on -/
structure CF (c : Cn) (x : Str) (m : FM) (n : Nat) (ks : List Str) (pm : List Nat) (dd : List D) : Prop where
  ex : ∃ f fd ps, FnG c.P c.wo c.M c.base c.k f fd ps m ∧ Bnd c.M fd ps n ks pm dd ∧ c.M.mg x = some (.ref f) ∧ PySem.W.keepIn c.M.K (.ref f) = true
theorem w_call (o : OkX c N sc fnf X) {m : FM} {n : Nat} {ks : List Str} {pm : List Nat} {dd : List D} {kws : List Keyword} (F : CF c x m n ks pm dd) (h : chkG sc x = true) (ha : SA c.M W X es ml) (hk : SK c.M W X kws mk)
    (hst : starEach es X.env = es.map fun e => (false, eval e X.env)) (hks : kws.map (·.arg) = ks.map some) : SE c.M W X (.Call (.Name x p) es kws pos) (eCall m n ks.length pm dd ml mk) := by
  obtain ⟨f, fd, ps, F, hb, hm, hkp⟩ := F.ex
  exact se_call (by rw [o.p, o.w, o.b]; exact F) (Nat.le_refl _) o.g hb (chkG_gl o h).1 hm hkp ha hk (chkG_gl o h).2.1 hst hks

/-! ### comprehensions -/
theorem OkX.blk (o : OkX c N sc fnf X) {scope : Scope} (s : Shared) (H : Hp) (C : Addr) (cl : List (Str × Addr)) (fp : List Addr) : OkX c N (relS scope sc) (fun x => scope.names.lookup x == some .cell) (X.blk s H scope (compEnvC scope cl C X.env) fp) :=
  ⟨⟨o.g.K, o.g.mg, o.g.calm, o.g.nd, o.g.room, o.g.gd⟩, o.n, by show relS scope X.env.scope = _; rw [o.s], rfl, rfl, o.p, o.w, o.b⟩
variable {elt tg iter : Expr} {ifs : List Expr} {scope : Scope} {mi : MI} {mg : MG} {mt : MT} {me : ME} {ts : List Nat}
theorem w_comp (o : OkX c N sc fnf X) (own : List (Str × Nat)) (hb : blkC N sc scope own = true) (hi : SI c.M W X tg iter mi)
    (hg : ∀ X', OkX c N (relS scope sc) (fun x => scope.names.lookup x == some .cell) X' → SG c.M X' tg ts mg) (ht : ∀ X', OkX c N (relS scope sc) (fun x => scope.names.lookup x == some .cell) X' → STs c.M W0 X' ifs mt)
    (he : ∀ X', OkX c N (relS scope sc) (fun x => scope.names.lookup x == some .cell) X' → SE c.M W0 X' elt me) (hts : (ts.all fun i => (own.map (·.2)).contains i) = true) (hs : ∀ x, foldedSetIterable iter X.env x = pure x) :
    SF c.M W X (.ListComp elt [⟨tg, iter, ifs, 0⟩] scope pos) (lComp mi mg mt me (own.map (·.2))) := by
  refine sf_comp o.g hi (by rw [o.n, o.s]; exact blkOk_by hb) (fun s H C cl fp => hg _ (o.blk s H C cl fp)) (fun s H C cl fp => ht _ (o.blk s H C cl fp)) (fun s H C cl fp => he _ (o.blk s H C cl fp)) (fun i hi => ?_) hs
  exact List.contains_iff_mem.mp (List.all_eq_true.mp hts i hi)
theorem sw_eq (o : OkX c N sc fnf X) (hk : isFnK sc.kind = true) {elt : Expr} {gs : List Comprehension} {py : Pos} {l : Nat} : swapsWith (.ListComp elt gs scope pos) (some (.Name y py)) l X.env = pure (chkSw sc y py pos scope) := by
  have hk' : X.env.scope.kind = .function := by rw [o.s]; exact isFnK_eq hk
  have hb : X.env.blockKind = .function := by unfold Env.blockKind; rw [hk']; rfl
  have e1 : (X.env.kindOf y == some NameKind.local) = decide (sc.names.lookup y = some .local) := by
    unfold Env.kindOf; rw [o.s]
    cases sc.names.lookup y with
    | none => rfl
    | some k => cases k <;> rfl
  unfold swapsWith chkSw
  simp only [hb, e1, Expr.pos]
  rfl
theorem w_setComp (o : OkX c N sc fnf X) (i : Nat) {py spos : Pos} (h : chkT N sc fnf i y = true) (hk : isFnK sc.kind = true) (hsw : chkSw sc y py pos scope = true) (own : List (Str × Nat)) (hb : blkC N sc scope own = true) (hi : SI c.M W X tg iter mi)
    (hg : ∀ X', OkX c N (relS scope sc) (fun x => scope.names.lookup x == some .cell) X' → SG c.M X' tg ts mg) (ht : ∀ X', OkX c N (relS scope sc) (fun x => scope.names.lookup x == some .cell) X' → STs c.M W0 X' ifs mt)
    (he : ∀ X', OkX c N (relS scope sc) (fun x => scope.names.lookup x == some .cell) X' → SE c.M W0 X' elt me) (hts : (ts.all fun i => (own.map (·.2)).contains i) = true) (hs : ∀ x, foldedSetIterable iter X.env x = pure x) :
    SS c.M W X (.Assign [.Name y py] (.ListComp elt [⟨tg, iter, ifs, 0⟩] scope pos) spos) (sSet i (eNew (lComp mi mg mt me (own.map (·.2))))) := by
  have hl : X.env.scope.names.lookup y = some .local := by
    unfold chkSw at hsw
    simp only [Bool.and_eq_true, decide_eq_true_eq] at hsw
    rw [o.s]; exact hsw.1.1
  refine ss_setComp o.g (chkT_of o h).1 hl (by rw [sw_eq o hk, hsw]) hi (by rw [o.n, o.s]; exact blkOk_by hb) (fun s H C cl fp => hg _ (o.blk s H C cl fp)) (fun s H C cl fp => ht _ (o.blk s H C cl fp)) (fun s H C cl fp => he _ (o.blk s H C cl fp)) (fun i hi => ?_) hs
  exact List.contains_iff_mem.mp (List.all_eq_true.mp hts i hi)
theorem w_setCompOwn (o : OkX c N sc fnf X) (i : Nat) {py spos : Pos} (h : chkT N sc fnf i y = true) (hk : isFnK sc.kind = true) (hsw : chkSw sc y py pos scope = true) (own : List (Str × Nat)) (hb : blkC N sc scope own = true) (hi : SI c.M W X tg iter mi)
    (hg : ∀ X', OkX c N (relS scope sc) (fun x => scope.names.lookup x == some .cell) X' → SG c.M X' tg ts mg) (ht : ∀ X', OkX c N (relS scope sc) (fun x => scope.names.lookup x == some .cell) X' → STs c.M W0 X' ifs mt)
    (he : ∀ X', OkX c N (relS scope sc) (fun x => scope.names.lookup x == some .cell) X' → SE c.M W0 X' elt me) (hts : (ts.all fun i => (own.map (·.2)).contains i) = true) (hs : ∀ x, foldedSetIterable iter X.env x = pure x) :
    SS c.M W X (.Assign [.Name y py] (.ListComp elt [⟨tg, iter, ifs, 0⟩] scope pos) spos) (sSetOwn i (lComp mi mg mt me (own.map (·.2)))) := by
  have hl : X.env.scope.names.lookup y = some .local := by
    unfold chkSw at hsw
    simp only [Bool.and_eq_true, decide_eq_true_eq] at hsw
    rw [o.s]; exact hsw.1.1
  refine ss_setCompOwn o.g (chkT_of o h).1 hl (by rw [sw_eq o hk, hsw]) hi (by rw [o.n, o.s]; exact blkOk_by hb) (fun s H C cl fp => hg _ (o.blk s H C cl fp)) (fun s H C cl fp => ht _ (o.blk s H C cl fp)) (fun s H C cl fp => he _ (o.blk s H C cl fp)) (fun i hi => ?_) hs
  exact List.contains_iff_mem.mp (List.all_eq_true.mp hts i hi)
/-- a comprehension given to a name by the long way -/
theorem w_setC (o : OkX c N sc fnf X) (i : Nat) {py spos : Pos} {gs : List Comprehension} (h : chkT N sc fnf i y = true) (hk : isFnK sc.kind = true) (hsw : chkSw sc y py pos scope = false) (ha : SE c.M W X (.ListComp elt gs scope pos) ma) : SS c.M W X (.Assign [.Name y py] (.ListComp elt gs scope pos) spos) (sSet i ma) :=
  w_set o i h ha (by rw [sw_eq o hk, hsw])
end
end GL
/-! GL part 13: written tables, defs held by a name, slices, own lists, stores to places. -/
namespace GL
open PySem L2 PyProof.Rows
section
variable {M : Im} {W : XW} {X : Cx} {k j n i : Nat} {a b o e : Expr} {es : List Expr} {ma mb mo : ME} {ml : ML} {pos p apos cpos : Pos} {x : Str}
/-! ### a written dict by a text -/
def eTab (tb : Str → Option D) (a : ME) : ME := fun env g => (a env g).bind fun x g1 => match x with
  | .str z => match tb z with
    | some d => .ok d g1
    | none => .bad
  | _ => .bad
theorem se_tab (g : GX M k X) {tb : Str → Option D} {T : Addr} (hT : ∀ z d, tb z = some d → ∃ v, KDct M.K X.w T z v ∧ ∀ w, DV M w d v) (hg : Gl X x) (hm : M.mg x = some (.ref T)) (hd : (x == ("__debug__" : Str)) = false) (ha : SE M W X a ma) (hs : PlainIx a) :
    SE M W X (.Subscript (.Name x p) a pos) (eTab tb ma) := by
  obtain ⟨t, a1, a2⟩ := ha
  have hn : PE X (.Name x p) (tC (.ref T)) := pe_glob hg (by rw [g.mg]; exact hm) rfl hd
  refine ⟨_, pe_ix ix_kdict hn a1 hs, fun w fr env G σ H Q r h => ?_⟩
  refine a2 w fr env G σ H _ r ((Post.bind h).imp fun y w1 G1 H1 l1 r1 h1 vy dy => ?_)
  cases dy <;> try exact h1.elim
  rename_i z
  simp only at h1
  cases q : tb z with
  | none => rw [q] at h1; exact h1.elim
  | some d =>
    rw [q] at h1
    obtain ⟨v, kd, dv⟩ := hT z d q
    rw [← g.K] at kd
    exact ⟨T, z, v, rfl, rfl, kd, Post.here h1 r1 v (dv w1)⟩
/-! ### a def held by a local name -/
/-- F id: what the def of that number means; ok tells which may be called so -/
def eCallV (F : Nat → FM) (okF : Nat → Bool) (n : Nat) (i : Nat) (l : ML) : ME := fun env g => match env[i]? with
  | some (.val (.fn q)) => if okF q then (l env g).bind fun ds g1 => if ds.length = n then noX (F q ds g1) else .bad else .bad
  | _ => .bad
theorem permL_range {α : Type} {n : Nat} {xs : List α} (h : xs.length = n) : permL (List.range n) (xs ++ [] ++ []) = xs := by
  rw [List.append_nil, List.append_nil]
  subst h
  unfold permL
  have : ∀ (ys zs : List α), ((List.range ys.length).map (· + zs.length)).filterMap (fun i => (zs ++ ys)[i]?) = ys := by
    intro ys
    induction ys with
    | nil => intro zs; rfl
    | cons y ys ih =>
      intro zs
      rw [List.length_cons, List.range_succ_eq_map, List.map_cons, List.filterMap_cons]
      simp only [Nat.zero_add, List.getElem?_append_right (Nat.le_refl _), Nat.sub_self, List.getElem?_cons_zero]
      have h2 := ih (zs ++ [y])
      rw [List.map_map]
      rw [List.append_assoc, List.singleton_append] at h2
      simp only [List.length_append, List.length_singleton] at h2
      have e : (List.range ys.length).map ((· + zs.length) ∘ Nat.succ) = (List.range ys.length).map (· + (zs.length + 1)) := by
        apply List.map_congr_left
        intro a _
        show a + 1 + zs.length = a + (zs.length + 1)
        omega
      rw [e, h2]
  simpa using this xs []
theorem se_callV (g : GX M k X) {F : Nat → FM} {okF : Nat → Bool} (HF : ∀ q f, okF q = true → M.fa q = some f → ∃ fd ps, FnG X.prog X.w M X.base k f fd ps (F q) ∧ Bnd M fd ps n [] (List.range n) [] ∧ PySem.W.keepIn M.K (.ref f) = true)
    (hN : X.N[i]? = some x) (hv : Vis X.env.scope x) (hdb : (x == ("__debug__" : Str)) = false) (hcd : (x == ("__classdict__" : Str)) = false) (ha : SA M W X (e :: es) ml)
    (he : starEach (e :: es) X.env = (false, eval e X.env) :: starEach es X.env) (hpl : (backTo pos (starEach es X.env)).any (·.1) = false) : SE M W X (.Call (.Name x p) (e :: es) [] pos) (eCallV F okF n i ml) := by
  obtain ⟨t, a1, a2⟩ := ha
  refine ⟨fun σ H Q => ∃ f q, σ[i]? = some (some (.ref f)) ∧ okF q = true ∧ M.fa q = some f ∧ t σ H fun vs H1 => ∃ w fr env G ds, RS M w fr env G σ H1 ∧ DVs M w ds vs ∧ ds.length = n ∧ Post M W fr env σ w (PE' M Q) (noX (F q ds G)), ⟨fun pins s σ H Q I h => ?_⟩, fun w fr env G σ H Q rs h => ?_⟩
  · obtain ⟨f, q, hs, hok, hf, ht⟩ := h
    obtain ⟨fd, ps, FG, hb, hk⟩ := HF q f hok hf
    refine wpAny_Call_Name_kw (thn ((pe_var (pos := p) hN hv hdb hcd).run pins s σ H (fun v H1 => v = .ref f ∧ H1 = H) I ⟨.ref f, hs, rfl, rfl⟩) fun u s1 ⟨v, H1, I1, r1, q1⟩ => ?_)
    obtain ⟨rfl, rfl⟩ := q1
    cases r1
    have kk : PySem.W.keepIn X.K (.ref f) = true := by rw [g.K]; exact hk
    refine PySem.W.callWith_K (h₀ := X.base) I.ok.mod.kin kk (thn (a1.run pos pins s1 σ _ _ I1 ht) fun us s2 ⟨vs, H2, I2, r, w, fr, env, G, ds, rs, dvs, hl, hp⟩ => ⟨I2.kIn, ?_⟩) he hpl
    exact run_G (ks := []) (zs := []) (ws := []) (es' := []) FG g.room g hb I2 r .nil hl rfl rs dvs .nil (by rw [permL_range hl]; exact hp)
  · unfold eCallV at h
    cases q : env[i]? with
    | none => rw [q] at h; exact h.elim
    | some s =>
      rw [q] at h
      cases s with
      | un => exact h.elim
      | own xs => exact h.elim
      | val d =>
        cases d <;> try exact h.elim
        rename_i z
        simp only at h
        by_cases hok : okF z = true
        · rw [if_pos hok] at h
          obtain ⟨v, h1, h2⟩ := rs.get q
          cases h2 with
          | fn h3 =>
            refine ⟨_, z, h1, hok, h3, ?_⟩
            refine a2 w fr env G σ H _ rs ((Post.bind h).imp fun ds w1 G1 H1 l1 r1 h4 vs dvs => ?_)
            by_cases hl : ds.length = n
            · rw [if_pos hl] at h4; exact ⟨w1, fr, env, G1, ds, r1, dvs, hl, h4⟩
            · rw [if_neg hl] at h4; exact h4.elim
        · rw [if_neg hok] at h; exact h.elim

/-! ### slices, list + list -/
def SO (M : Im) (W : XW) (X : Cx) (e : Option Expr) (m : MO) : Prop := ∃ t, PO X e t ∧ ∀ w fr env G σ H Q, RS M w fr env G σ H → Post M W fr env σ w (fun o _ _ H' => Q o H') (m env G) → t σ H Q
theorem so_none : SO M W X none oNone := ⟨_, po_none, fun w fr env G σ H Q r h => Post.here h r⟩
theorem so_some (ha : SE M W X a ma) : SO M W X (some a) (oSome ma) := by
  obtain ⟨t, a1, a2⟩ := ha
  refine ⟨_, po_some a1, fun w fr env G σ H Q r h => ?_⟩
  refine a2 w fr env G σ H _ r ((Post.bind h).imp fun x w1 G1 H1 l1 r1 h1 vx dx => ?_)
  cases dx <;> try exact h1.elim
  exact ⟨_, rfl, Post.here (P := fun o _ _ H' => Q o H') h1 r1⟩
theorem cut_DVs {w : Wd} {xs : List D} {vs : List V} (h : DVs M w xs vs) (lo hi : Option Int) : DVs M w (cutD xs lo hi) (cutV vs lo hi) := by
  unfold cutD cutV
  rw [h.length]
  exact (h.drop _).take _
theorem cut_whole {xs : List D} {lo hi : Option Int} (h : HT.sIx xs.length 0 lo = 0 ∧ HT.sIx xs.length xs.length hi = xs.length) : cutD xs lo hi = xs := by
  unfold cutD
  rw [h.1, h.2]
  simp
variable {lo hi : Option Expr} {ml' mh : MO} {p2 : Pos}
theorem se_cut (g : GX M k X) (ha : SE M W X a ma) (hl : SO M W X lo ml') (hh : SO M W X hi mh) : SE M W X (.Subscript a (.Slice lo hi none p2) pos) (eCut ma ml' mh) := by
  obtain ⟨t, a1, a2⟩ := ha
  obtain ⟨u, b1, b2⟩ := hl
  obtain ⟨v, c1, c2⟩ := hh
  refine ⟨_, pe_slice (sl_list.or sl_tupA) a1 b1 c1, fun w fr env G σ H Q r h => ?_⟩
  refine a2 w fr env G σ H _ r ((Post.bind h).imp fun x w1 G1 H1 l1 r1 h1 vx dx => ?_)
  refine b2 w1 fr env G1 σ H1 _ r1 ((Post.bind h1).imp fun oi w2 G2 H2 l2 r2 h2 => ?_)
  refine c2 w2 fr env G2 σ H2 _ r2 ((Post.bind h2).imp fun oj w3 G3 H3 l3 r3 h3 => ?_)
  have dh := DH.of r3 ((dx.up l2).up l3)
  generalize deref G3 x = x' at *
  cases x' <;> try exact h3.elim
  · obtain ⟨q, vs, rfl, hs, hd⟩ := dh.tup
    have hs' := SqT.mono r3.cold hs
    rw [← g.K] at hs'
    refine .inr ⟨q, vs, rfl, hs', fun hw => ?_, fun hw q' hq => ?_⟩
    · rw [← hd.length] at hw
      have h3 : Post M W fr env σ w3 (PE' M Q) (.ok (.tup (cutD _ oi oj)) G3) := h3
      rw [cut_whole hw] at h3
      exact Post.here h3 r3 _ (.tup hs hd)
    · exact post_tup r3 (cut_DVs hd oi oj) h3 hq
  · obtain ⟨q, vs, rfl, hs, hd⟩ := dh.list
    exact .inl ⟨q, vs, rfl, .inl (.inl hs), fun q' hq => post_lst r3 (cut_DVs hd oi oj) h3 hq⟩
def lCut (a : ME) (lo hi : MO) : ML := fun env g => (a env g).bind fun x g1 => (lo env g1).bind fun l g2 => (hi env g2).bind fun h g3 => match deref g3 x with
  | .lst xs => if xs.length ≤ LIM then .ok (cutD xs l h) g3 else .bad
  | _ => .bad
theorem sf_cut (g : GX M k X) (ha : SE M W X a ma) (hl : SO M W X lo ml') (hh : SO M W X hi mh) : SF M W X (.Subscript a (.Slice lo hi none p2) pos) (lCut ma ml' mh) := by
  obtain ⟨t, a1, a2⟩ := ha
  obtain ⟨u, b1, b2⟩ := hl
  obtain ⟨v, c1, c2⟩ := hh
  refine ⟨_, pe_slice sl_list a1 b1 c1, fun w fr env G σ H Q r h => ?_⟩
  refine a2 w fr env G σ H _ r ((Post.bind h).imp fun x w1 G1 H1 l1 r1 h1 vx dx => ?_)
  refine b2 w1 fr env G1 σ H1 _ r1 ((Post.bind h1).imp fun oi w2 G2 H2 l2 r2 h2 => ?_)
  refine c2 w2 fr env G2 σ H2 _ r2 ((Post.bind h2).imp fun oj w3 G3 H3 l3 r3 h3 => ?_)
  have dh := DH.of r3 ((dx.up l2).up l3)
  generalize deref G3 x = x' at *
  cases x' <;> try exact h3.elim
  rename_i xs
  obtain ⟨q, vs, rfl, hs, hd⟩ := dh.list
  by_cases hz : xs.length ≤ LIM
  · simp only [hz, if_true] at h3
    refine ⟨q, vs, rfl, .inl (.inl hs), fun q' hq => Post.here h3 r3 _ q' (cut_DVs hd oi oj) ?_ hq⟩
    have := cutV_length vs oi oj
    rw [← hd.length] at this
    exact Nat.le_trans this (lim_le hz)
  · simp only [hz, if_false] at h3; exact h3.elim
def lCat (a b : ME) : ML := fun env g => (a env g).bind fun x g1 => (b env g1).bind fun y g2 => match deref g2 x, deref g2 y with
  | .lst xs, .lst ys => if xs.length + ys.length ≤ LIM then .ok (xs ++ ys) g2 else .bad
  | _, _ => .bad
theorem sf_cat (g : GX M k X) (ha : SE M W X a ma) (hb : SE M W X b mb) : SF M W X (.BinOp a .Add b pos) (lCat ma mb) := by
  obtain ⟨ta, a1, a2⟩ := ha
  obtain ⟨tb, b1, b2⟩ := hb
  refine ⟨_, pe_op op_cat a1 b1, fun w fr env G σ H Q rs h => ?_⟩
  refine a2 w fr env G σ H _ rs ((Post.bind h).imp fun x w1 G1 H1 l1 r1 h1 vx dx => ?_)
  refine b2 w1 fr env G1 σ H1 _ r1 ((Post.bind h1).imp fun y w2 G2 H2 l2 r2 h2 vy dy => ?_)
  have dh := DH.of r2 (dx.up l2)
  have dh' := DH.of r2 dy
  generalize deref G2 x = x' at *
  generalize deref G2 y = y' at *
  cases x' <;> cases y' <;> try exact h2.elim
  rename_i xs ys
  obtain ⟨q, vs, rfl, hs, hd⟩ := dh.list
  obtain ⟨q', us, rfl, hs', hd'⟩ := dh'.list
  by_cases hz : xs.length + ys.length ≤ LIM
  · simp only [hz, if_true] at h2
    have hz' : vs.length + us.length ≤ sizeLine := by rw [← hd.length, ← hd'.length]; exact lim_le hz
    exact ⟨q, q', vs, us, rfl, rfl, hs, hs', hz', fun p' hp => Post.here h2 r2 _ p' (hd.append hd') (by rw [List.length_append]; exact hz') hp⟩
  · simp only [hz, if_false] at h2; exact h2.elim

/-! ### an own list is grown -/
def sOwnApp (i : Nat) (a : ME) : MS := fun env g => match env[i]? with
  | some (.own xs) => (a env g).bindS fun d g1 => if xs.length < LIM then .nx (env.set i (.own (xs ++ [d]))) g1 else .bad
  | _ => .bad
theorem set_self {α : Type} : ∀ {l : List α} {i : Nat} {x : α}, l[i]? = some x → l.set i x = l
  | _ :: _, 0, _, h => by simp at h; subst h; rfl
  | y :: l, i + 1, x, h => by simp only [List.set_cons_succ]; rw [set_self (by simpa using h)]
theorem RS.getOwn {w : Wd} {fr : List (Addr × HO)} {env : Env'} {G : Gh} {σ : L2.St} {H : Hp} {i : Nat} {xs : List D} (r : RS M w fr env G σ H) (h : env[i]? = some (.own xs)) :
    ∃ q vs, σ[i]? = some (some (.ref q)) ∧ H q = some (.lst vs) ∧ DVs M w xs vs ∧ ∀ ys us, DVs M w ys us → RS M w fr (env.set i (.own ys)) G σ (upd H q (.lst us)) := by
  obtain ⟨os, g, sl⟩ := r
  obtain ⟨q, vs, f1, f2, rfl, h1, h2, h3, h4⟩ := sl.getOwn h
  refine ⟨q, vs, h1, g.frm (q, .lst vs) (by simp), h2, fun ys us d => ⟨_, ?_, h3 ys us d⟩⟩
  rw [List.append_assoc, List.cons_append] at g ⊢
  exact g.setFr
theorem ss_ownApp (g : GX M k X) (hN : X.N[i]? = some x) (hv : Vis X.env.scope x) (hdb : (x == ("__debug__" : Str)) = false) (hcd : (x == ("__classdict__" : Str)) = false) (ha : SE M W X a ma)
    (hst : starEach [a] X.env = [(false, eval a X.env)]) (hline : (apos.endLine == cpos.line) = true) : SS M W X (.Expr (.Call (.Attribute (.Name x p) "append" apos) [a] [] cpos) pos) (sOwnApp i ma) := by
  obtain ⟨t, a1, a2⟩ := ha
  have hs' : starEach (a :: []) X.env = (false, eval a X.env) :: starEach [] X.env := hst
  refine ⟨_, ps_expr (pe_bm PySem.F.plainAttrs_list PySem.F.slot_list_append PySem.F.type_list_append mt_append (pe_var (pos := p) hN hv hdb hcd) (pa_cons a1 pa_nil hs') rfl (by rw [hst]; rfl) hline hs' rfl) rfl, fun w fr env G σ H D r h => ?_⟩
  unfold sOwnApp at h
  cases q : env[i]? with
  | none => rw [q] at h; exact h.elim
  | some s =>
    rw [q] at h
    cases s with
    | un => exact h.elim
    | val d => exact h.elim
    | own xs =>
      obtain ⟨l, vs, h1, h2, h3, _⟩ := r.getOwn q
      refine ⟨_, h1, .inl ⟨rfl, vs, .inl (.inl h2)⟩, ?_⟩
      refine a2 w fr env G σ H _ r ((PostS.bind h).imp fun d w1 G1 H1 l1 r1 h4 vd dd => ?_)
      by_cases hz : xs.length < LIM
      · rw [if_pos hz] at h4
        obtain ⟨l', vs', e1, e2, e3, e4⟩ := r1.getOwn q
        rw [h1] at e1; cases e1
        refine ⟨l, vs', vd, rfl, rfl, e2, by rw [← e3.length]; exact lim_lt hz, ?_⟩
        exact h4 w1 σ _ (Wd.Le.refl w1) (e4 _ _ (e3.append (.cons dd .nil)))
      · rw [if_neg hz] at h4; exact h4.elim
def InsOk (n : Nat) (j : Int) : Prop := n < LIM ∧ 0 ≤ j ∧ j < 2 ^ 63
noncomputable def insOk (n : Nat) (j : Int) : Bool := tru (InsOk n j)
theorem ins_ok {n : Nat} {j : Int} (h : n < LIM) (h0 : 0 ≤ j) (h1 : j ≤ 1000000) : insOk n j = true := tru_iff.mpr ⟨h, h0, Int.lt_of_le_of_lt h1 (by decide)⟩
noncomputable def sOwnIns (i : Nat) (a b : ME) : MS := fun env g => match env[i]? with
  | some (.own xs) => (a env g).bindS fun y g1 => (b env g1).bindS fun d g2 => match y with
    | .int j => if insOk xs.length j then .nx (env.set i (.own (xs.take j.toNat ++ [d] ++ xs.drop j.toNat))) g2 else .bad
    | _ => .bad
  | _ => .bad
theorem ss_ownIns (g : GX M k X) (hN : X.N[i]? = some x) (hv : Vis X.env.scope x) (hdb : (x == ("__debug__" : Str)) = false) (hcd : (x == ("__classdict__" : Str)) = false) (ha : SE M W X a ma) (hb : SE M W X b mb)
    (hst : starEach [a, b] X.env = [(false, eval a X.env), (false, eval b X.env)]) (hst2 : starEach [b] X.env = [(false, eval b X.env)]) (hline : (apos.endLine == cpos.line) = true) : SS M W X (.Expr (.Call (.Attribute (.Name x p) "insert" apos) [a, b] [] cpos) pos) (sOwnIns i ma mb) := by
  obtain ⟨t, a1, a2⟩ := ha
  obtain ⟨u, b1, b2⟩ := hb
  have hs' : starEach (a :: [b]) X.env = (false, eval a X.env) :: starEach [b] X.env := by rw [hst, hst2]
  have hs2 : starEach (b :: []) X.env = (false, eval b X.env) :: starEach [] X.env := hst2
  refine ⟨_, ps_expr (pe_bm PySem.F.plainAttrs_list PySem.F.slot_list_insert PySem.F.type_list_insert mt_insert (pe_var (pos := p) hN hv hdb hcd) (pa_cons a1 (pa_cons b1 pa_nil hs2) hs') rfl (by rw [hst]; rfl) hline hs' (by rw [hst2]; rfl)) rfl, fun w fr env G σ H D r h => ?_⟩
  unfold sOwnIns at h
  cases q : env[i]? with
  | none => rw [q] at h; exact h.elim
  | some s =>
    rw [q] at h
    cases s with
    | un => exact h.elim
    | val d => exact h.elim
    | own xs =>
      obtain ⟨l, vs, h1, h2, h3, _⟩ := r.getOwn q
      refine ⟨_, h1, .inl ⟨rfl, vs, .inl (.inl h2)⟩, ?_⟩
      refine a2 w fr env G σ H _ r ((PostS.bind h).imp fun y w1 G1 H1 l1 r1 h4 vy dy => ?_)
      refine b2 w1 fr env G1 σ H1 _ r1 ((PostS.bind h4).imp fun d w2 G2 H2 l2 r2 h5 vd dd => ?_)
      cases dy <;> try exact h5.elim
      rename_i jj
      simp only at h5
      by_cases hz0 : insOk xs.length jj = true
      · rw [if_pos hz0] at h5
        have hz : xs.length < LIM ∧ 0 ≤ jj ∧ jj < 2 ^ 63 := tru_iff.mp hz0
        obtain ⟨l', vs', e1, e2, e3, e4⟩ := r2.getOwn q
        rw [h1] at e1; cases e1
        refine ⟨l, vs', jj, vd, rfl, rfl, e2, by rw [← e3.length]; exact lim_lt hz.1, hz.2.1, hz.2.2, ?_⟩
        exact h5 w2 σ _ (Wd.Le.refl w2) (e4 _ _ (((e3.take _).append (.cons dd .nil)).append (e3.drop _)))
      · rw [if_neg hz0] at h5; exact h5.elim

/-! ### o[i] = e of a mutable list -/
def sSetIx (a : ME) (o i : ME) : MS := fun env g => (a env g).bindS fun d g1 => (o env g1).bindS fun x g2 => (i env g2).bindS fun y g3 => match x, y with
  | .loc n, .int z => match g3[n]? with
    | some (.lst xs) => match ixN xs.length z with
      | some j => .nx env (g3.set n (.lst (xs.set j d)))
      | none => .bad
    | _ => .bad
  | _, _ => .bad
theorem ss_setIx (g : GX M k X) (ha : SE M W X a ma) (ho : SE M W X o mo) (hi : SE M W X b mb)
    (hag : ∀ v, assign (.Subscript o b p) X.env v = (do
      let ov ← holding [v] (eval o X.env)
      let iv ← holding [v, ov] (eval b X.env)
      standAt p
      holding [v, ov, iv] (setItem ov iv v)
      release [v, ov, iv] []))
    (hs : swapsWithSole [.Subscript o b p] a pos.line X.env = pure false) (hw : swappedStores [.Subscript o b p] a X.env = pure none) (h1 : (assignEach [.Subscript o b p] X.env).map (·.2) = [assign (.Subscript o b p) X.env]) :
    SS M W X (.Assign [.Subscript o b p] a pos) (sSetIx ma mo mb) := by
  obtain ⟨t, a1, a2⟩ := ha
  obtain ⟨u, b1, b2⟩ := ho
  obtain ⟨v, c1, c2⟩ := hi
  refine ⟨_, ps_asg a1 (pg_sub b1 c1 set_list hag) hs hw h1, fun w fr env G σ H D r h => ?_⟩
  refine a2 w fr env G σ H _ r ((PostS.bind h).imp fun d w1 G1 H1 l1 r1 h1 vd dd => ?_)
  refine b2 w1 fr env G1 σ H1 _ r1 ((PostS.bind h1).imp fun x w2 G2 H2 l2 r2 h2 vx dx => ?_)
  refine c2 w2 fr env G2 σ H2 _ r2 ((PostS.bind h2).imp fun y w3 G3 H3 l3 r3 h3 vy dy => ?_)
  cases dx <;> cases dy <;> try exact h3.elim
  rename_i nn q hq z
  simp only at h3
  cases e : G3[nn]? with
  | none => rw [e] at h3; exact h3.elim
  | some ob =>
    rw [e] at h3
    cases ob with
    | ins c fs => exact h3.elim
    | dct kvs => exact h3.elim
    | lst xs =>
      obtain ⟨q', ho, e1, e2, e3⟩ := r3.obj e
      rw [l3.r _ _ hq] at e1; cases e1
      cases e3 with
      | lst e3 =>
        simp only at h3
        rename_i vs
        cases e4 : ixN xs.length z with
        | none => rw [e4] at h3; exact h3.elim
        | some jj =>
          rw [e4] at h3
          refine ⟨q, vs, z, jj, rfl, rfl, e2, by rw [← e3.length]; exact e4, ?_⟩
          exact h3 w3 σ _ (Wd.Le.refl w3) (r3.setObj (l3.r _ _ hq) (.lst (e3.set ((dd.up l2).up l3) jj)))
end
section
variable {c : Cn} {W : XW} {N : List Str} {sc : Scope} {fnf : Str → Bool} {X : Cx} {a b e o' : Expr} {es : List Expr} {ma mb mo : ME} {ml : ML} {pos p apos cpos p2 : Pos} {x : Str} {i n : Nat} {lo hi : Option Expr} {ml' mh : MO}
theorem chkV_of (o : OkX c N sc fnf X) (h : chkV N sc i x = true) : X.N[i]? = some x ∧ Vis X.env.scope x ∧ (x == ("__debug__" : Str)) = false ∧ (x == ("__classdict__" : Str)) = false := by
  unfold chkV at h
  simp only [Bool.and_eq_true, decide_eq_true_eq, Bool.not_eq_true'] at h
  refine ⟨by rw [o.n]; exact h.1.1.1, ?_, h.1.2, h.2⟩
  unfold Vis
  rw [o.s]
  have := h.1.1.2
  cases q : sc.names.lookup x with
  | none => rw [q] at this; cases this
  | some k => rw [q] at this; cases k <;> simp [isVis] at this ⊢
/-- a written table of the module -/
structure TF (c : Cn) (x : Str) (tb : Str → Option D) : Prop where
  ex : ∃ T, c.M.mg x = some (.ref T) ∧ ∀ z d, tb z = some d → ∃ v, KDct c.M.K c.wo T z v ∧ ∀ w, DV c.M w d v
theorem w_tab (o : OkX c N sc fnf X) {tb : Str → Option D} (F : TF c x tb) (h : chkG sc x = true) (ha : SE c.M W X a ma) (hs : PlainIx a) : SE c.M W X (.Subscript (.Name x p) a pos) (eTab tb ma) := by
  obtain ⟨T, hm, hT⟩ := F.ex
  exact se_tab o.g (by rw [o.w]; exact hT) (chkG_gl o h).1 hm (chkG_gl o h).2.1 ha hs
/-- defs that a name may hold -/
def VF (c : Cn) (F : Nat → FM) (okF : Nat → Bool) (n : Nat) : Prop := ∀ q f, okF q = true → c.M.fa q = some f → ∃ fd ps, FnG c.P c.wo c.M c.base c.k f fd ps (F q) ∧ Bnd c.M fd ps n [] (List.range n) [] ∧ PySem.W.keepIn c.M.K (.ref f) = true
theorem w_callV (o : OkX c N sc fnf X) {F : Nat → FM} {okF : Nat → Bool} (HF : VF c F okF n) (i : Nat) (h : chkV N sc i x = true) (ha : SA c.M W X (e :: es) ml)
    (he : starEach (e :: es) X.env = (false, eval e X.env) :: starEach es X.env) (hpl : (backTo pos (starEach es X.env)).any (·.1) = false) : SE c.M W X (.Call (.Name x p) (e :: es) [] pos) (eCallV F okF n i ml) :=
  se_callV o.g (by rw [o.p, o.w, o.b]; exact HF) (chkV_of o h).1 (chkV_of o h).2.1 (chkV_of o h).2.2.1 (chkV_of o h).2.2.2 ha he hpl
theorem w_cut (o : OkX c N sc fnf X) (ha : SE c.M W X a ma) (hl : SO c.M W X lo ml') (hh : SO c.M W X hi mh) : SE c.M W X (.Subscript a (.Slice lo hi none p2) pos) (eCut ma ml' mh) := se_cut o.g ha hl hh
theorem w_cutF (o : OkX c N sc fnf X) (ha : SE c.M W X a ma) (hl : SO c.M W X lo ml') (hh : SO c.M W X hi mh) : SF c.M W X (.Subscript a (.Slice lo hi none p2) pos) (lCut ma ml' mh) := sf_cut o.g ha hl hh
theorem w_catF (o : OkX c N sc fnf X) (ha : SE c.M W X a ma) (hb : SE c.M W X b mb) : SF c.M W X (.BinOp a .Add b pos) (lCat ma mb) := sf_cat o.g ha hb
theorem w_ownApp (o : OkX c N sc fnf X) (i : Nat) (h : chkV N sc i x = true) (ha : SE c.M W X a ma) (hst : starEach [a] X.env = [(false, eval a X.env)]) (hline : (apos.endLine == cpos.line) = true) : SS c.M W X (.Expr (.Call (.Attribute (.Name x p) "append" apos) [a] [] cpos) pos) (sOwnApp i ma) :=
  ss_ownApp o.g (chkV_of o h).1 (chkV_of o h).2.1 (chkV_of o h).2.2.1 (chkV_of o h).2.2.2 ha hst hline
theorem w_ownIns (o : OkX c N sc fnf X) (i : Nat) (h : chkV N sc i x = true) (ha : SE c.M W X a ma) (hb : SE c.M W X b mb) (hst : starEach [a, b] X.env = [(false, eval a X.env), (false, eval b X.env)]) (hst2 : starEach [b] X.env = [(false, eval b X.env)]) (hline : (apos.endLine == cpos.line) = true) :
    SS c.M W X (.Expr (.Call (.Attribute (.Name x p) "insert" apos) [a, b] [] cpos) pos) (sOwnIns i ma mb) :=
  ss_ownIns o.g (chkV_of o h).1 (chkV_of o h).2.1 (chkV_of o h).2.2.1 (chkV_of o h).2.2.2 ha hb hst hst2 hline
theorem w_setIx (o : OkX c N sc fnf X) (ha : SE c.M W X a ma) (ho : SE c.M W X o' mo) (hi : SE c.M W X b mb)
    (hag : ∀ v, assign (.Subscript o' b p) X.env v = (do
      let ov ← holding [v] (eval o' X.env)
      let iv ← holding [v, ov] (eval b X.env)
      standAt p
      holding [v, ov, iv] (setItem ov iv v)
      release [v, ov, iv] []))
    (hs : swapsWithSole [.Subscript o' b p] a pos.line X.env = pure false) (hw : swappedStores [.Subscript o' b p] a X.env = pure none) (h1 : (assignEach [.Subscript o' b p] X.env).map (·.2) = [assign (.Subscript o' b p) X.env]) :
    SS c.M W X (.Assign [.Subscript o' b p] a pos) (sSetIx ma mo mb) := ss_setIx o.g ha ho hi hag hs hw h1
end
end GL
/-! GL part 13b: a frame's own list is looked at by an expression that touches no mutable object. -/
namespace GL
open PySem L2
mutual
/-- no mutable object within -/
def frD : D → Bool
  | .loc _ => false
  | .tup xs => frDs xs
  | .lst xs => frDs xs
  | _ => true
def frDs : List D → Bool
  | [] => true
  | x :: xs => frD x && frDs xs
end
mutual
/-- neither a list nor a mutable object within -/
def plD : D → Bool
  | .loc _ | .lst _ | .arr _ => false
  | .tup xs => plDs xs
  | _ => true
def plDs : List D → Bool
  | [] => true
  | x :: xs => plD x && plDs xs
end
def hidS : Sl → Sl
  | .val d => if frD d then .val d else .un
  | _ => .un
/-- the slots as such an expression sees them -/
def hidE (env : Env') (i : Nat) (xs : List D) : Env' := (env.map hidS).set i (.val (.lst xs))
section
variable {M : Im} {w w' : Wd}
mutual
theorem DV.fr (hc : ∀ a o, w.C a = some o → w'.C a = some o) : ∀ (d : D) (v : V), DV M w d v → frD d = true → DV M w' d v
  | .non, _, h, _ => by cases h; exact .non
  | .bl b, _, h, _ => by cases h; exact .bl b
  | .int i, _, h, _ => by cases h; exact .int i
  | .str x, _, h, _ => by cases h; exact .str x
  | .tup xs, _, h, f => by
    cases h with
    | tup a b => exact .tup (SqT.mono hc a) (DVs.fr hc xs _ b (by simpa only [frD] using f))
  | .lst xs, _, h, f => by
    cases h with
    | lst a b => exact .lst (hc _ _ a) (DVs.fr hc xs _ b (by simpa only [frD] using f))
  | .loc n, _, h, f => by simp only [frD] at f; exact nomatch f
  | .fn s, _, h, _ => by
    cases h with
    | fn a => exact .fn a
  | .arr ns, _, h, _ => by
    cases h with
    | arr a => exact .arr (SqL.mono hc a)
theorem DVs.fr (hc : ∀ a o, w.C a = some o → w'.C a = some o) : ∀ (ds : List D) (vs : List V), DVs M w ds vs → frDs ds = true → DVs M w' ds vs
  | [], _, h, _ => by cases h; exact .nil
  | d :: ds, _, h, f => by
    have f : frD d = true ∧ frDs ds = true := by simpa only [frDs, Bool.and_eq_true] using f
    cases h with
    | cons a b => exact .cons (DV.fr hc d _ a f.1) (DVs.fr hc ds _ b f.2)
end
theorem SqT.off {K : PySem.W.Frag} {C C' : Hp} {a b : Addr} {vs us : List V} (ha : C a = some (.lst vs)) (h : ∀ b o, C b = some o → b ≠ a → C' b = some o) (r : SqT K C b us) : SqT K C' b us := by
  rcases r with (r | ⟨o, r⟩) | r
  · exact .inl (.inl (h _ _ r (fun e => by subst e; rw [ha] at r; cases r)))
  · exact .inl (.inr ⟨o, h _ _ r (fun e => by subst e; rw [ha] at r; cases r)⟩)
  · exact .inr r
mutual
theorem DV.off {a : Addr} {vs : List V} (ha : w.C a = some (.lst vs)) (hc : ∀ b o, w.C b = some o → b ≠ a → w'.C b = some o) : ∀ (d : D) (v : V), DV M w d v → plD d = true → DV M w' d v
  | .non, _, h, _ => by cases h; exact .non
  | .bl b, _, h, _ => by cases h; exact .bl b
  | .int i, _, h, _ => by cases h; exact .int i
  | .str x, _, h, _ => by cases h; exact .str x
  | .tup xs, _, h, f => by
    cases h with
    | tup a b => exact .tup (SqT.off ha hc a) (DVs.off ha hc xs _ b (by simpa only [plD] using f))
  | .lst xs, _, h, f => by simp only [plD] at f; exact nomatch f
  | .loc n, _, h, f => by simp only [plD] at f; exact nomatch f
  | .fn s, _, h, _ => by
    cases h with
    | fn a => exact .fn a
  | .arr ns, _, h, f => by simp only [plD] at f; exact nomatch f
theorem DVs.off {a : Addr} {vs : List V} (ha : w.C a = some (.lst vs)) (hc : ∀ b o, w.C b = some o → b ≠ a → w'.C b = some o) : ∀ (ds : List D) (us : List V), DVs M w ds us → plDs ds = true → DVs M w' ds us
  | [], _, h, _ => by cases h; exact .nil
  | d :: ds, _, h, f => by
    have f : plD d = true ∧ plDs ds = true := by simpa only [plDs, Bool.and_eq_true] using f
    cases h with
    | cons x y => exact .cons (DV.off ha hc d _ x f.1) (DVs.off ha hc ds _ y f.2)
end
theorem SlR.hid (hc : ∀ a o, w.C a = some o → w'.C a = some o) : ∀ {os : List (Addr × HO)} {env : Env'} {σ : L2.St}, SlR M w os env σ → SlR M w' [] (env.map hidS) σ
  | _, _, _, .nil => .nil
  | _, _, _, .un b => .un (SlR.hid hc b)
  | _, _, _, .val (d := d) a b => by
    by_cases h : frD d = true
    · have e : hidS (.val d) = .val d := if_pos h
      show SlR M w' [] (hidS (.val d) :: _) _
      rw [e]; exact .val (DV.fr hc _ _ a h) (SlR.hid hc b)
    · have e : hidS (.val d) = .un := if_neg h
      show SlR M w' [] (hidS (.val d) :: _) _
      rw [e]; exact .un (SlR.hid hc b)
  | _, _, _, .own a b => .un (SlR.hid hc b)
end
/-- the objects of the heap, as they stand -/
theorem RG.objs {M : Im} {w : Wd} {fr : List (Addr × HO)} {G : Gh} {H : Hp} (r : RG M w fr G H) : ∃ ps : List (Addr × HO), ps.map (·.1) = w.ρ ∧ ∀ p ∈ ps, H p.1 = some p.2 := by
  have : ∀ l : List Addr, (∀ a ∈ l, ∃ o, H a = some o) → ∃ ps : List (Addr × HO), ps.map (·.1) = l ∧ ∀ p ∈ ps, H p.1 = some p.2 := fun l => by
    induction l with
    | nil => exact fun _ => ⟨[], rfl, fun _ q => nomatch q⟩
    | cons a l ih =>
      intro h
      obtain ⟨o, ho⟩ := h a List.mem_cons_self
      obtain ⟨ps, h1, h2⟩ := ih fun b hb => h b (List.mem_cons_of_mem _ hb)
      refine ⟨(a, o) :: ps, by simp [h1], fun p hp => ?_⟩
      rcases List.mem_cons.mp hp with rfl | hp
      · exact ho
      · exact h2 p hp
  exact this w.ρ fun a ha => r.there (List.mem_append_left _ ha)
theorem SlR.at_ {M : Im} {w : Wd} {i : Nat} {d : D} {v : V} (r : DV M w d v) : ∀ {env : Env'} {σ : L2.St} {j : Nat}, SlR M w [] env σ → σ[j]? = some (some v) → SlR M w [] (env.set j (.val d)) σ
  | _, _, _, .nil, h => by simp at h
  | _, _, 0, .un b, h => by simp at h; subst h; exact .val r b
  | _, _, 0, .val a b, h => by simp at h; subst h; exact .val r b
  | _, _, j + 1, .un b, h => .un (SlR.at_ (i := i) r b (by simpa using h))
  | _, _, j + 1, .val a b, h => .val a (SlR.at_ (i := i) r b (by simpa using h))
theorem borrow_core {M : Im} {w : Wd} {fr : List (Addr × HO)} {env : Env'} {G : Gh} {σ : L2.St} {H : Hp} {i : Nat} {xs : List D} (r : RS M w fr env G σ H) (h : env[i]? = some (.own xs)) (hx : frDs xs = true) :
    ∃ w0 fr0, RS M w0 fr0 (hidE env i xs) [] σ H ∧ ∀ w1 H', w0.Le w1 → RS M w1 fr0 (hidE env i xs) [] σ H' → ∃ w2, w.Le w2 ∧ RS M w2 fr env G σ H' ∧ ∀ d v, plD d = true → DV M w1 d v → DV M w2 d v := by
  obtain ⟨os, g, sl⟩ := r
  obtain ⟨a, vs, f1, f2, rfl, q1, q2, q3, q4⟩ := sl.getOwn h
  have gp : RG M w ((a, .lst vs) :: (f1 ++ f2 ++ fr)) G H := g.perm (by
    rw [List.append_assoc, List.cons_append, List.append_assoc]
    exact List.perm_middle)
  obtain ⟨ps, hp1, hp2⟩ := g.objs
  have hca : w.C a = none := gp.hot a (by simp)
  have hcle : ∀ b o, w.C b = some o → upd w.C a (.lst vs) b = some o := fun b o e => by rw [upd_ne (ne_of_none e hca)]; exact e
  have nd : (a :: (w.ρ ++ (f1 ++ f2 ++ fr).map (·.1))).Nodup := (List.perm_middle.nodup_iff).mp gp.nd
  have nd' := List.nodup_cons.mp nd
  have em : (ps ++ (f1 ++ f2 ++ fr)).map (·.1) = w.ρ ++ (f1 ++ f2 ++ fr).map (·.1) := by rw [List.map_append, hp1]
  refine ⟨⟨upd w.C a (.lst vs), []⟩, ps ++ (f1 ++ f2 ++ fr), ⟨[], ?_, ?_⟩, fun w1 H' l r1 => ?_⟩
  · refine ⟨fun b o e => ?_, rfl, fun n o b e1 e2 => by simp at e1, fun p hp => ?_, ?_, fun b hb => ?_⟩
    · have e : upd w.C a (.lst vs) b = some o := e
      by_cases hb : b = a
      · subst hb; rw [upd_same] at e; cases e; exact gp.frm (b, .lst vs) List.mem_cons_self
      · rw [upd_ne hb] at e; exact g.cold b o e
    · have hp : p ∈ ps ++ (f1 ++ f2 ++ fr) := hp
      rcases List.mem_append.mp hp with hp | hp
      · exact hp2 p hp
      · exact gp.frm p (List.mem_cons_of_mem _ hp)
    · show (List.map (·.1) (ps ++ (f1 ++ f2 ++ fr))).Nodup
      rw [em]; exact nd'.2
    · have hb : b ∈ List.map (·.1) (ps ++ (f1 ++ f2 ++ fr)) := hb
      rw [em] at hb
      show upd w.C a (.lst vs) b = none
      have hb' : b ≠ a := fun e => nd'.1 (e ▸ hb)
      rw [upd_ne hb']
      refine gp.hot b ?_
      show b ∈ w.ρ ++ (a :: (f1 ++ f2 ++ fr).map (·.1))
      exact (List.perm_middle.mem_iff).mpr (List.mem_cons_of_mem _ hb)
  · exact SlR.at_ (i := i) (.lst upd_same (DVs.fr hcle _ _ q2 hx)) (SlR.hid (w' := ⟨upd w.C a (.lst vs), []⟩) hcle sl) q1
  · obtain ⟨os1, g1, s1⟩ := r1
    have fr1 : ∀ p ∈ ps ++ (f1 ++ f2 ++ fr), H' p.1 = some p.2 := fun p hp => g1.frm p (List.mem_append_right _ hp)
    have w1a : w1.C a = some (.lst vs) := l.c a _ upd_same
    have hot1 : ∀ b ∈ w.ρ ++ (f1 ++ f2 ++ fr).map (·.1), w1.C b = none := fun b hb => g1.hot b (by
      rw [List.map_append, em]
      exact List.mem_append_right _ (List.mem_append_right _ hb))
    let C2 : Hp := fun b => if b = a then none else w1.C b
    have c2 : ∀ b o, w1.C b = some o → b ≠ a → C2 b = some o := fun b o e hb => by show (if b = a then none else w1.C b) = some o; rw [if_neg hb]; exact e
    have c2' : ∀ b o, C2 b = some o → w1.C b = some o := fun b o e => by
      have e : (if b = a then none else w1.C b) = some o := e
      by_cases hb : b = a
      · rw [if_pos hb] at e; cases e
      · rw [if_neg hb] at e; exact e
    have lw : w.Le ⟨C2, w.ρ⟩ := ⟨fun b o e => c2 b o (l.c b o (hcle b o e)) (ne_of_none e hca), fun _ _ e => e⟩
    refine ⟨⟨C2, w.ρ⟩, lw, ⟨_, ?_, sl.up lw⟩, fun d v hd hv => DV.off w1a c2 d v hv hd⟩
    have g2 : RG M ⟨C2, w.ρ⟩ ((a, .lst vs) :: (f1 ++ f2 ++ fr)) G H' := by
      refine ⟨fun b o e => g1.cold b o (c2' b o e), gp.len, fun n o b e1 e2 => ?_, fun p hp => ?_, gp.nd, fun b hb => ?_⟩
      · obtain ⟨ho, x1, x2⟩ := gp.obj n o b e1 e2
        have hb : b ∈ ps.map (·.1) := by rw [hp1]; exact List.mem_of_getElem? e2
        obtain ⟨p, hp, rfl⟩ := List.mem_map.mp hb
        have y1 := hp2 p hp
        rw [x1] at y1; cases y1
        exact ⟨_, fr1 p (List.mem_append_left _ hp), x2.up lw⟩
      · rcases List.mem_cons.mp hp with rfl | hp
        · exact g1.cold _ _ w1a
        · exact fr1 p (List.mem_append_right _ hp)
      · have hb : b ∈ w.ρ ++ (a :: (f1 ++ f2 ++ fr).map (·.1)) := hb
        rw [List.perm_middle.mem_iff, List.mem_cons] at hb
        show (if b = a then none else w1.C b) = none
        rcases hb with rfl | hb
        · rw [if_pos rfl]
        · by_cases hba : b = a
          · rw [if_pos hba]
          · rw [if_neg hba]; exact hot1 b hb
    exact g2.perm (by
      rw [List.append_assoc f1 f2 fr, List.append_assoc f1 (_ :: f2) fr]
      exact List.perm_middle.symm)
/-- an expression looks at the own list in slot i -/
def eBor (i : Nat) (e : ME) : ME := fun env g => match env[i]? with
  | some (.own xs) => if frDs xs then (match e (hidE env i xs) [] with
    | .ok d [] => if plD d then .ok d g else .bad
    | _ => .bad) else .bad
  | _ => .bad
def tBor (i : Nat) (e : MT) : MT := fun env g => match env[i]? with
  | some (.own xs) => if frDs xs then (match e (hidE env i xs) [] with
    | .ok d [] => .ok d g
    | _ => .bad) else .bad
  | _ => .bad
section
variable {M : Im} {W : XW} {X : Cx} {a : Expr} {ma : ME} {mt : MT}
theorem se_bor {i : Nat} (ha : SE M W X a ma) : SE M W X a (eBor i ma) := by
  obtain ⟨t, a1, a2⟩ := ha
  refine ⟨t, a1, fun w fr env G σ H Q r h => ?_⟩
  unfold eBor at h
  cases e : env[i]? with
  | none => rw [e] at h; exact h.elim
  | some s =>
    rw [e] at h
    cases s with
    | un => exact h.elim
    | val d => exact h.elim
    | own xs =>
      by_cases hx : frDs xs = true
      · simp only [hx, if_true] at h
        obtain ⟨w0, fr0, r0, k⟩ := borrow_core r e hx
        refine a2 w0 fr0 _ [] σ H Q r0 ?_
        cases e2 : ma (hidE env i xs) [] with
        | ok d g' =>
          cases g' with
          | nil =>
            rw [e2] at h
            by_cases hd : plD d = true
            · simp only [hd, if_true] at h
              intro w1 H' l1 r1 v hv
              obtain ⟨w2, l2, r2, k2⟩ := k w1 H' l1 r1
              exact h w2 H' l2 r2 v (k2 d v hd hv)
            · simp only [hd] at h; exact h.elim
          | cons o g' => rw [e2] at h; exact h.elim
        | exc x g' => rw [e2] at h; exact h.elim
        | bad => rw [e2] at h; exact h.elim
      · simp only [hx] at h; exact h.elim
theorem st_bor {i : Nat} (ha : ST M W X a mt) : ST M W X a (tBor i mt) := by
  obtain ⟨t, a1, a2⟩ := ha
  refine ⟨t, a1, fun w fr env G σ H Q r h => ?_⟩
  unfold tBor at h
  cases e : env[i]? with
  | none => rw [e] at h; exact h.elim
  | some s =>
    rw [e] at h
    cases s with
    | un => exact h.elim
    | val d => exact h.elim
    | own xs =>
      by_cases hx : frDs xs = true
      · simp only [hx, if_true] at h
        obtain ⟨w0, fr0, r0, k⟩ := borrow_core r e hx
        refine a2 w0 fr0 _ [] σ H Q r0 ?_
        cases e2 : mt (hidE env i xs) [] with
        | ok d g' =>
          cases g' with
          | nil =>
            rw [e2] at h
            intro w1 H' l1 r1
            obtain ⟨w2, l2, r2, k2⟩ := k w1 H' l1 r1
            exact h w2 H' l2 r2
          | cons o g' => rw [e2] at h; exact h.elim
        | exc x g' => rw [e2] at h; exact h.elim
        | bad => rw [e2] at h; exact h.elim
      · simp only [hx] at h; exact h.elim
end
end GL
/-! GL part 14: a, b = x, y. -/
namespace GL
open PySem L2 PyProof.Rows
def isStar : Expr → Bool
  | .Starred .. => true
  | _ => false
def nmOf (sc : Scope) (line : Nat) : Expr → Option Str
  | .Name id pos => if sc.names.lookup id == some .local && pos.line == line then some id else none
  | _ => none
/-- the names that are stored from the right, or that none are; none: not told -/
def swapT (sc : Scope) (ts vs : List Expr) : Option (Option (List Str)) :=
  if (!(ts.length == 2 || ts.length == 3) || vs.length != ts.length) = true then some none else
  if (vs.any isStar) = true then some none else
  let names := ts.filterMap (nmOf sc ((ts.head?.map (·.pos.line)).getD 0))
  if (names.length != ts.length || names.eraseDups.length != names.length) = true then some none else
  if (vs.all (foldedForSure 8)) = true then some none else
  if (vs.all (constantsAlone 8)) = true then none else some (some names)
section
variable {c : Cn} {W : XW} {N : List Str} {sc : Scope} {fnf : Str → Bool} {X : Cx} {a b e : Expr} {ml : ML} {pos p : Pos} {x y : Str}
theorem swap_aux {us vs : List Expr} {r : Option (List Str)} (h : swapT sc us vs = some r) (f : Expr → Option Str) (s : Expr → Bool) (hf : f = nmOf sc ((us.head?.map (·.pos.line)).getD 0)) (hs : s = isStar) (un : Sem PUnit) :
    (if (!(us.length == 2 || us.length == 3) || vs.length != us.length) = true then pure none else if (vs.any s) = true then pure none else
      if ((us.filterMap f).length != us.length || (us.filterMap f).eraseDups.length != (us.filterMap f).length) = true then pure none else
      if (vs.all (foldedForSure 8)) = true then pure none else if (vs.all (constantsAlone 8)) = true then (do un; pure (some (us.filterMap f))) else pure (some (us.filterMap f)) : Sem (Option (List Str))) = pure r := by
  subst hf hs
  unfold swapT at h
  split at h
  · rename_i c1; cases h; rw [if_pos c1]
  · rename_i c1
    rw [if_neg c1]
    split at h
    · rename_i c2; cases h; rw [if_pos c2]
    · rename_i c2
      rw [if_neg c2]
      simp only at h
      split at h
      · rename_i c3; cases h; rw [if_pos c3]
      · rename_i c3
        rw [if_neg c3]
        split at h
        · rename_i c4; cases h; rw [if_pos c4]
        · rename_i c4
          rw [if_neg c4]
          split at h
          · cases h
          · rename_i c5
            cases h
            rw [if_neg c5]
theorem swap_eq (o : OkX c N sc fnf X) (hk : isFnK sc.kind = true) {us vs : List Expr} {k1 k2 : Nat} {p1 p2 : Pos} {r : Option (List Str)} (h : swapT sc us vs = some r) : swappedStores [.Tuple us k1 p1] (.Tuple vs k2 p2) X.env = pure r := by
  have hk' : X.env.scope.kind = .function := by rw [o.s]; exact isFnK_eq hk
  have hb : X.env.blockKind = .function := by unfold Env.blockKind; rw [hk']; rfl
  have e1 : ∀ id : Str, X.env.kindOf id = sc.names.lookup id := fun id => by unfold Env.kindOf; rw [o.s]
  simp only [swappedStores]
  simp only [hb, bne_self_eq_false, Bool.or_false]
  refine swap_aux h _ _ ?_ ?_ _
  · funext q
    cases q <;> simp only [nmOf, e1]
  · funext q
    cases q <;> rfl
theorem w_par2 (o : OkX c N sc fnf X) (i j : Nat) {px py pt : Pos} {kt k2 pt2} (hi : chkT N sc fnf i x = true) (hj : chkT N sc fnf j y = true) (hij : i ≠ j) (hx : decide (sc.names.lookup x = some .local) = true) (hy : decide (sc.names.lookup y = some .local) = true) (ha : SA c.M W X [a, b] ml)
    (hk : isFnK sc.kind = true) (hw : decide (swapT sc [.Name x px, .Name y py] [a, b] = some (some [x, y])) = true) :
    SS c.M W X (.Assign [.Tuple [.Name x px, .Name y py] kt pt] (.Tuple [a, b] k2 pt2) pos) (sPar i j ml) :=
  w_par o i j hi hj hij hx hy ha (swap_eq o hk (of_decide_eq_true hw)) rfl
/-- several targets that are no plain names -/
theorem w_asgT (o : OkX c N sc fnf X) {us vs : List Expr} {k1 k2 : Nat} {p1 p2 : Pos} {ma : ME} {mg : MG} {ts : List Nat} (ha : SE c.M W X (.Tuple vs k2 p2) ma) (hg : SG c.M X (.Tuple us k1 p1) ts mg) (hk : isFnK sc.kind = true) (hw : decide (swapT sc us vs = some none) = true) :
    SS c.M W X (.Assign [.Tuple us k1 p1] (.Tuple vs k2 p2) pos) (sAsg ma mg) := ss_asg ha hg rfl (swap_eq o hk (of_decide_eq_true hw)) rfl
end
end GL
namespace GL
open PySem L2 PyProof.Rows
theorem fnG_D {P : Program} {wo : World} {M : Im} {base : Heap} {k : Nat} {f : Addr} {fd : FuncData} {x qual : Str} {params : Arguments} {body : List Stmt} {scope : Scope} {dvs : List V} {kws : List (Str × V)} {N ps : List Str} {b : MS}
    (F : FunD M.K x qual params body scope dvs kws f fd) (S : FnScope N ps scope) (hbody : ∀ X, OkX ⟨P, wo, M, base, k⟩ N scope allT X → SSs M W0 X body b) : FnG P wo M base (k + 1) f fd ps (mFun ps.length N.length b) := by
  obtain ⟨oc, od, dV, kV, doc, pm, an, cdv, ct, osl, rfl, lk, hcd, _, _⟩ := F.ex
  exact fnG_of lk hcd S hbody
theorem fnG_0 {P : Program} {wo : World} {M : Im} {base : Heap} {f : Addr} {fd : FuncData} {ps : List Str} : FnG P wo M base 0 f fd ps (fun _ _ => .bad) := ⟨fun _ _ _ _ _ _ _ _ _ _ _ _ _ _ _ _ _ _ _ h => h.elim⟩
theorem bnd_of {M : Im} {f : Addr} {fd : FuncData} {x qual : Str} {params : Arguments} {body : List Stmt} {scope : Scope} {ps ks : List Str} {n : Nat} {pm : List Nat} (F : FunD M.K x qual params body scope [] [] f fd)
    (h : ∀ (kV doc pm' : Value) (an : Option Addr) (cdv ct : Value) (us ws : List Value), us.length = n → ws.length = ks.length → bindArgs (PySem.W.fnOf x qual params body scope .none kV doc pm' an cdv ct) ⟨us, ks.zip ws⟩ = pure (ps.zip (permL pm (us ++ ws ++ [])))) : Bnd M fd ps n ks pm [] := by
  obtain ⟨oc, od, dV, kV, doc, pm', an, cdv, ct, osl, rfl, lk, hcd, hD, _⟩ := F.ex
  rcases hD with ⟨_, rfl⟩ | ⟨q, _⟩
  · exact Bnd.plain fun us ws h1 h2 => h kV doc pm' an cdv ct us ws h1 h2
  · exact absurd rfl q
theorem funD_mk {K : PySem.W.Frag} {x qual : Str} {st : Stmt} {f : Addr} {oc : Value} {od an : Option Addr} {osl : Array (Option Value)} {kV doc pm cdv ct : Value} (l : K.lookup f = some ⟨oc, od, .func (PySem.W.fnOf x qual (defArgs st) (defBody st) (defScope st) .none kV doc pm an cdv ct), osl⟩)
    (c : PySem.W.codeIn K cdv qual = true) (k : PySem.W.keepIn K (.ref f) = true) : FunD K x qual (defArgs st) (defBody st) (defScope st) [] [] f (PySem.W.fnOf x qual (defArgs st) (defBody st) (defScope st) .none kV doc pm an cdv ct) :=
  ⟨⟨oc, od, .none, kV, doc, pm, an, cdv, ct, osl, rfl, l, c, .inl ⟨rfl, rfl⟩, .inl rfl⟩, k⟩
end GL
/-! GL part 6a: (a, b, ..) = a list or a tuple, with one starred name. -/
namespace GL
open PySem PySem.Spec PyProof.Rows L2
section
variable {prog : Program} {w : World} {A : Around} {E : Value → Shared → Prop} {I : Addr} {fp wr : List Addr} {items : Array Value} {S : Nat → Heap → Prop}
/-- so many items are drawn -/
theorem draw_walk (W : Walks prog w A I fp wr items.size (fun i v => items[i]? = some v) S) : ∀ (m i : Nat) (s : Shared) (Q : List Value → Shared → Prop), i + m ≤ items.size → S i s.heap →
    (∀ h' tk, S (i + m) h' → (∀ b o, b ∉ wr → s.heap.get? b = some o → h'.get? b = some o) → Q ((items.toList.drop i).take m) { s with heap := h', toks := tk }) → wpAny (model prog w) A (draw (.ref I) m) Q E s
  | 0, i, s, Q, _, st, hQ => by
    show wpAny _ _ (pure []) Q E s
    exact wpAny_pure (by simpa using hQ s.heap s.toks st fun _ _ _ e => e)
  | m + 1, i, s, Q, hle, st, hQ => by
    have hlt : i < items.size := by omega
    show wpAny _ _ (pyNext (.ref I) >>= _) Q E s
    refine wpAny_bind (W.item i s _ _ hlt st fun v h₁ tk₁ hv st₁ k₁ => ?_)
    have hv : v = items[i] := by
      have e : items[i]? = some items[i] := by simp [hlt]
      rw [e] at hv; exact (Option.some.inj hv).symm
    subst hv
    refine wpAny_bind (wpAny_holding (draw_walk W m (i + 1) _ _ (by omega) st₁ fun h₂ tk₂ st₂ k₂ => wpAny_pure ?_))
    have hd : items.toList.drop i = items[i] :: items.toList.drop (i + 1) := by simp [List.drop_eq_getElem_cons, hlt]
    have := hQ h₂ tk₂ (by rw [show i + (m + 1) = i + 1 + m by omega]; exact st₂) fun b o hb e => k₂ b o hb (k₁ b o hb e)
    rw [hd, List.take_succ_cons] at this
    exact this
/-- a walk from its i-th turn on -/
theorem walk_from (W : Walks prog w A I fp wr items.size (fun i v => items[i]? = some v) S) (i : Nat) (hi : i ≤ items.size) : Walks prog w A I fp wr (items.size - i) (fun j v => items[i + j]? = some v) (fun j h => S (i + j) h) where
  sub := W.sub
  frame := fun j h h' st k => W.frame (i + j) h h' st k
  item := fun j s Q E hj st hQ => W.item (i + j) s Q E (by omega) st fun v h' tk hv st' k => hQ v h' tk hv st' k
  done := fun s Q E st hQ => W.done s Q E (by rw [show i + (items.size - i) = items.size by omega] at st; exact st) hQ
  self := fun j s Q E st hQ => W.self (i + j) s Q E st hQ
end
section
variable {prog : Program} {w : World} {A : Around} {E : Value → Shared → Prop} {s : Shared}
/-- what an iterable must be for unpacking: its iterator is new and walks its items -/
structure Unp (prog : Program) (w : World) (A : Around) (s : Shared) (v : Value) (items : Array Value) : Prop where
  it : ∀ (Q : Bool → Shared → Prop) (E : Value → Shared → Prop), Q false s → wpAny (model prog w) A (notIterableAtAll v) Q E s
  go : ∃ (T : String) (h1 : Heap) (fp : List Addr) (S : Nat → Heap → Prop), (T = "list_iterator" ∨ T = "tuple_iterator") ∧
    (∀ (Q : Value → Shared → Prop) (E : Value → Shared → Prop), Q (.ref s.heap.objs.size) { s with heap := h1 } → wpAny (model prog w) A (pyIter v) Q E s) ∧
    (∀ b o, s.heap.get? b = some o → h1.get? b = some o) ∧ s.heap.objs.size < h1.objs.size ∧ (∀ b ∈ fp, b < h1.objs.size) ∧ s.heap.objs.size ∈ fp ∧ S 0 h1 ∧
    (∀ i h, S i h → ∃ o, h.get? s.heap.objs.size = some o ∧ o.cls = .type T) ∧ (∀ i h b, S i h → b ∈ fp → b < h.objs.size) ∧
    (∀ B : Around, B.handled = none → Walks prog w B s.heap.objs.size fp [s.heap.objs.size] items.size (fun i v => items[i]? = some v) S)
theorem unp_tuple {t : Addr} {items : Array Value} (ht : s.heap.IsTuple t items) : Unp prog w A s (.ref t) items where
  it := fun Q E h => by
    unfold notIterableAtAll
    exact wpAny_bind (wpAny_specialOf ht.typeIs F.slot_tuple_iter.lookup (wpAny_pure h))
  go := by
    have hlt : t < s.heap.objs.size := by obtain ⟨o, ho, _⟩ := ht; exact Heap.lt_size ho
    refine ⟨"tuple_iterator", _, [s.heap.objs.size, t], fun i h => h.IsTupleIter s.heap.objs.size t i ∧ h.IsTuple t items, .inr rfl, fun Q E h => wpAny_pyIter_tuple ht h, fun b o e => Heap.get?_push_of_some _ e, ?_, ?_, by simp, ⟨⟨_, Heap.get?_push_size _ rfl, rfl, rfl⟩, ht.push _⟩, fun i h st => ?_, fun i h b st hb => ?_, fun B hB => Walks.tuple hB _ _ (Nat.ne_of_lt hlt) items⟩
    · rw [Heap.size_push]; omega
    · intro b hb
      rw [Heap.size_push]
      simp at hb
      rcases hb with rfl | rfl
      · exact Nat.lt_succ_self _
      · exact Nat.lt_succ_of_lt hlt
    · obtain ⟨o, h1, h2, _⟩ := st.1; exact ⟨o, h1, h2⟩
    · simp at hb
      rcases hb with rfl | rfl
      · obtain ⟨o, h1, _⟩ := st.1; exact Heap.lt_size h1
      · obtain ⟨o, h1, _⟩ := st.2; exact Heap.lt_size h1
theorem unp_list {t : Addr} {items : Array Value} (ht : s.heap.IsList t items) : Unp prog w A s (.ref t) items where
  it := fun Q E h => by
    unfold notIterableAtAll
    exact wpAny_bind (wpAny_specialOf ht.typeIs slot_list_iter.lookup (wpAny_pure h))
  go := by
    have hlt : t < s.heap.objs.size := by obtain ⟨o, ho, _⟩ := ht; exact Heap.lt_size ho
    refine ⟨"list_iterator", _, [s.heap.objs.size, t], fun i h => h.IsListIter s.heap.objs.size t i ∧ h.IsList t items, .inl rfl, fun Q E h => wpAny_pyIter_list ht h, fun b o e => Heap.get?_push_of_some _ e, ?_, ?_, by simp, ⟨⟨_, Heap.get?_push_size _ rfl, rfl, rfl⟩, ht.push _⟩, fun i h st => ?_, fun i h b st hb => ?_, fun B hB => Walks.list hB _ _ (Nat.ne_of_lt hlt) items⟩
    · rw [Heap.size_push]; omega
    · intro b hb
      rw [Heap.size_push]
      simp at hb
      rcases hb with rfl | rfl
      · exact Nat.lt_succ_self _
      · exact Nat.lt_succ_of_lt hlt
    · obtain ⟨o, h1, h2, _⟩ := st.1; exact ⟨o, h1, h2⟩
    · simp at hb
      rcases hb with rfl | rfl
      · obtain ⟨o, h1, _⟩ := st.1; exact Heap.lt_size h1
      · obtain ⟨o, h1, _⟩ := st.2; exact Heap.lt_size h1
theorem unpackItems_all {v : Value} {items : Array Value} {Q : List Value → Shared → Prop} (hh : A.handled = none) (U : Unp prog w A s v items)
    (hQ : ∀ h' tk, (∀ b o, s.heap.get? b = some o → h'.get? b = some o) → Q items.toList { s with heap := h', toks := tk }) : wpAny (model prog w) A (unpackItems v items.size none) Q E s := by
  obtain ⟨T, h1, fp, S, hT, hgo, hk1, _, hfp, hI, hS, hty, hlt, hW⟩ := U.go
  have W := hW A hh
  have off : ∀ b o, s.heap.get? b = some o → b ∉ [s.heap.objs.size] := fun b o e hb => by
    simp at hb
    exact absurd (Heap.lt_size e) (by rw [hb]; exact Nat.lt_irrefl _)
  unfold unpackItems
  refine wpAny_bind (U.it _ _ ?_)
  simp only [Bool.false_eq_true, if_false]
  refine wpAny_bind (wpAny_holding (hgo _ _ ?_))
  refine wpAny_bind (wpAny_holding (draw_walk W items.size 0 _ _ (by omega) hS fun h₁ tk₁ st₁ k₁ => ?_))
  have hall : List.take items.size (List.drop 0 items.toList) = items.toList := by
    rw [List.drop_zero]; exact List.take_of_length_le (by simp)
  rw [hall]
  rw [if_neg (by simp)]
  refine wpAny_bind (wpAny_holding (W.done _ _ _ (by simpa using st₁) fun h₂ tk₂ k₂ => ?_))
  simp only [Option.isSome_none, Bool.false_eq_true, if_false]
  exact wpAny_pure (hQ h₂ tk₂ fun b o e => k₂ b o (off b o e) (k₁ b o (off b o e) (hk1 b o e)))
theorem unpackItems_star {v : Value} {items : Array Value} {n i : Nat} {Q : List Value → Shared → Prop} (hh : A.handled = none) (U : Unp prog w A s v items) (hz : items.size ≤ sizeLine) (hi : i < n) (hn : n - 1 ≤ items.size)
    (hQ : ∀ (h' : Heap) (tk : Nat), (∀ b o, s.heap.get? b = some o → h'.get? b = some o) →
      Q (items.toList.take i ++ [.ref h'.objs.size] ++ (items.toList.drop i).drop (items.size - i - (n - 1 - i))) { s with heap := h'.push { cls := .type "list", data := .seq ((items.toList.drop i).take (items.size - i - (n - 1 - i))).toArray }, toks := tk }) :
    wpAny (model prog w) A (unpackItems v n (some i)) Q E s := by
  obtain ⟨T, h1, fp, S, hT, hgo, hk1, hsz1, hfp, hI, hS, hty, hlt, hW⟩ := U.go
  have W := hW A hh
  have off : ∀ b o, s.heap.get? b = some o → b ∉ [s.heap.objs.size] := fun b o e hb => by
    simp at hb
    exact absurd (Heap.lt_size e) (by rw [hb]; exact Nat.lt_irrefl _)
  unfold unpackItems
  refine wpAny_bind (U.it _ _ ?_)
  simp only [Bool.false_eq_true, if_false]
  refine wpAny_bind (wpAny_holding (hgo _ _ ?_))
  refine wpAny_bind (wpAny_holding (draw_walk W i 0 _ _ (by omega) hS fun h₁ tk₁ st₁ k₁ => ?_))
  rw [List.drop_zero]
  rw [if_neg (by simp; omega)]
  have W1 := (walk_from (hW A.in1 hh) i (by omega)).toS
  have st₁' : S (i + 0) h₁ := by simpa using st₁
  refine wpAny_bind (wpAny_holding (wpAny_collect_iter (T := T) (by rcases hT with e | e; exact .inr (.inr (.inl e)); exact .inr (.inr (.inr e))) W1 (fun j s' st => ?_) st₁' (fun b hb => hlt _ _ b st₁ hb) hI (fun s' acc hm hit => ?_) (by omega)))
  · obtain ⟨o, e1, e2⟩ := hty _ _ st; exact ⟨o, e1, e2⟩
  · have hacc : acc.toList = items.toList.drop i := by
      apply List.ext_getElem?
      intro j
      rw [List.getElem?_drop]
      by_cases hj : j < acc.size
      · have e1 : acc[j]? = some acc[j] := by simp [hj]
        have e2 := hit.2 j _ e1
        have e3 : acc.toList[j]? = some acc[j] := by simp [hj]
        rw [e3]
        have e4 : items.toList[i + j]? = items[i + j]? := by simp
        rw [e4]; exact e2.symm
      · have e1 := hit.1
        rw [List.getElem?_eq_none (by simp; omega), List.getElem?_eq_none (by simp; omega)]
    rw [hacc]
    have hlen : (items.toList.drop i).length = items.size - i := by simp
    rw [hlen]
    rw [if_neg (by omega)]
    have hmid : items.size - i - (n - 1 - i) = items.size - i - (n - 1 - i) := rfl
    refine wpAny_bind (wpAny_newObj_type (wpAny_pure ?_) (by show (List.toArray _).size ≤ sizeLine; rw [List.size_toArray, List.length_take, List.length_drop, Array.length_toList]; omega))
    obtain ⟨hp, gn, dr, tk, os⟩ := s'
    have g1 := hm.gens
    have g2 := hm.drawn
    have g3 := hm.os
    simp only at g1 g2 g3
    subst g1 g2 g3
    have hk : ∀ b o, s.heap.get? b = some o → hp.get? b = some o := fun b o e => hm.heap b o (off b o e) (k₁ b o (off b o e) (hk1 b o e))
    exact hQ hp tk hk
end
/-- a sequence's items by values -/
def SqA (K : PySem.W.Frag) (H : Hp) (a : Addr) (xs : List V) : Prop := SqT K H a xs ∨ SqL K H a xs
theorem SqA.unp {X : Cx} {pins : List (Addr × Obj)} {σ : L2.St} {H : Hp} {s : Shared} {a : Addr} {xs : List V} (I : Inv X pins σ H s) (h : SqA X.K H a xs) : ∃ its : List Value, Vals xs its ∧ xs.length ≤ sizeLine ∧ Unp X.prog X.w X.A s (.ref a) its.toArray := by
  rcases h with h | h
  · obtain ⟨its, r, p, z⟩ := I.tuple h
    exact ⟨its, r, z, unp_tuple p⟩
  · obtain ⟨its, r, p, z⟩ := I.list h
    exact ⟨its, r, z, unp_list p.isList⟩
def gSeq (K : PySem.W.Frag) (n : Nat) (t : TGs) : TG := fun v σ H Q => ∃ a xs, v = .ref a ∧ SqA K H a xs ∧ xs.length = n ∧ t xs σ H Q
theorem pg_seq {X : Cx} {pos : Pos} {es : List Expr} {k : Nat} {t : TGs} {n : Nat} (hc : X.calm = true) (h : PGs X es t)
    (hn : (assignEach es X.env).length = n := by rfl) (hst : (assignEach es X.env).findIdx? (·.1) = none := by rfl) : PG X (.Tuple es k pos) (gSeq X.K n t) := by
  refine ⟨fun pins s σ H v u Q I r hw => ?_⟩
  obtain ⟨a, xs, e1, hq, hl, hw⟩ := hw
  subst e1
  cases r
  obtain ⟨its, rv, hz, U⟩ := hq.unp I
  rw [arm_assign_Tuple]
  refine wpAny_bind (wpAny_standAt ?_)
  unfold unpack
  rw [hst, show (assignEach es X.env).length = its.toArray.size by simp [hn, ← hl, rv.length]]
  refine wpAny_bind (wpAny_holding (unpackItems_all (I.ok.hd hc) U fun h' tk k => ?_))
  exact h.run pins _ σ H xs _ Q (I.kept (t' := tk) k) (by simpa using rv) hw
/-- one starred name at place i of n -/
def gStr (K : PySem.W.Frag) (i n : Nat) (t : TGs) : TG := fun v σ H Q => ∃ a xs, v = .ref a ∧ SqA K H a xs ∧ n - 1 ≤ xs.length ∧
  ∀ p, H p = none → t (xs.take i ++ [.ref p] ++ (xs.drop i).drop (xs.length - i - (n - 1 - i))) σ (upd H p (.lst ((xs.drop i).take (xs.length - i - (n - 1 - i))))) Q
theorem vals_drop {xs : List V} {us : List Value} (h : Vals xs us) (n : Nat) : Vals (xs.drop n) (us.drop n) := by
  induction h generalizing n with
  | nil => simp; exact .nil
  | cons a b ih => cases n with
    | zero => exact .cons a b
    | succ n => exact ih n
theorem vals_take {xs : List V} {us : List Value} (h : Vals xs us) (n : Nat) : Vals (xs.take n) (us.take n) := by
  induction h generalizing n with
  | nil => simp; exact .nil
  | cons a b ih => cases n with
    | zero => exact .nil
    | succ n => exact .cons a (ih n)
theorem vals_app {xs ys : List V} {us vs : List Value} (h : Vals xs us) (h' : Vals ys vs) : Vals (xs ++ ys) (us ++ vs) := by
  induction h with
  | nil => exact h'
  | cons a b ih => exact .cons a ih
theorem pg_star {X : Cx} {pos : Pos} {es : List Expr} {k : Nat} {t : TGs} {n i : Nat} (hc : X.calm = true) (h : PGs X es t)
    (hn : (assignEach es X.env).length = n) (hi : i < n) (hst : (assignEach es X.env).findIdx? (·.1) = some i) : PG X (.Tuple es k pos) (gStr X.K i n t) := by
  refine ⟨fun pins s σ H v u Q I r hw => ?_⟩
  obtain ⟨a, xs, e1, hq, hl, hw⟩ := hw
  subst e1
  cases r
  obtain ⟨its, rv, hz, U⟩ := hq.unp I
  have hlen : its.toArray.size = xs.length := by simp [rv.length]
  rw [arm_assign_Tuple]
  refine wpAny_bind (wpAny_standAt ?_)
  unfold unpack
  rw [hst, hn]
  refine wpAny_bind (wpAny_holding (unpackItems_star (I.ok.hd hc) U (by rw [hlen]; exact hz) hi (by rw [hlen]; exact hl) fun h' tk k => ?_))
  have I1 : Inv X pins σ H { s with heap := h' } := I.kept (t' := s.toks) k
  rw [hlen]
  have hts : ∀ l : List Value, l.toArray.toList = l := fun l => rfl
  rw [hts its]
  refine h.run pins _ σ _ _ _ Q (I1.laid (t' := tk) (a := h'.objs.size) (o := .lst ((xs.drop i).take (xs.length - i - (n - 1 - i)))) (fun b u e => Heap.get?_push_of_some _ e) (Nat.le_refl _) ⟨?_, _, 0, vals_take (vals_drop rv i) _, Heap.get?_push_size _ rfl⟩) ?_ (hw _ (I1.hok.fresh (Nat.le_refl _)))
  · rw [List.length_take, List.length_drop]; omega
  · exact vals_app (vals_app (vals_take rv i) (.cons rfl .nil)) (vals_drop (vals_drop rv i) _)
theorem pgs_consS {X : Cx} {e : Expr} {p : Pos} {es : List Expr} {t : TG} {u : TGs} (h1 : PG X e t) (h2 : PGs X es u)
    (hs : (assignEach (.Starred e p :: es) X.env).map (·.2) = assign e X.env :: (assignEach es X.env).map (·.2) := by rfl) : PGs X (.Starred e p :: es) (gCons t u) := by
  refine ⟨fun pins s σ H vs us Q I r h => ?_⟩
  obtain ⟨v, vr, e1, h⟩ := h
  subst e1
  cases r with
  | cons r rr =>
    rw [hs]
    exact assignInOrder_cons (thn (h1.run pins s σ H _ _ _ I r h) fun _ s1 ⟨σ1, H1, I1, q1⟩ => h2.run pins s1 σ1 H1 _ _ Q I1 rr q1)
/-- the items of a tuple or a list -/
def itsD : D → Option (List D)
  | .tup xs => some xs
  | .lst xs => some xs
  | _ => none
theorem its_DV {M : Im} {w : Wd} {d : D} {v : V} {xs : List D} {H : Hp} (hc : ∀ a o, w.C a = some o → H a = some o) (h : DV M w d v) (e : itsD d = some xs) : ∃ a vs, v = .ref a ∧ SqA M.K H a vs ∧ DVs M w xs vs := by
  cases h with
  | tup a b => cases e; exact ⟨_, _, rfl, .inl (SqT.mono hc a), b⟩
  | lst a b => cases e; exact ⟨_, _, rfl, .inr (.inl (.inl (hc _ _ a))), b⟩
  | _ => cases e
def gSq (n : Nat) (b : MGs) : MG := fun d env => match itsD d with
  | some xs => if xs.length = n then b xs env else none
  | none => none
/-- (.., *x, ..) with the star at place i of n -/
def gSt (i n : Nat) (b : MGs) : MG := fun d env => match itsD d with
  | some xs => if n - 1 ≤ xs.length ∧ xs.length ≤ LIM then b (xs.take i ++ [.lst ((xs.drop i).take (xs.length - i - (n - 1 - i)))] ++ (xs.drop i).drop (xs.length - i - (n - 1 - i))) env else none
  | none => none
section
variable {M : Im} {W : XW} {X : Cx} {k : Nat} {pos : Pos}
theorem sg_seq (g : GX M k X) {es : List Expr} {kk n : Nat} {m : MGs} {ts : List Nat} (h : SGs M X es ts m) (hn : (assignEach es X.env).length = n) (hst : (assignEach es X.env).findIdx? (·.1) = none) : SG M X (.Tuple es kk pos) ts (gSq n m) := by
  obtain ⟨t, a1, a2⟩ := h
  refine ⟨_, pg_seq g.calm a1 hn hst, fun w fr env G σ H Q d v r hd h => ?_⟩
  unfold gSq at h
  cases e : itsD d with
  | none => rw [e] at h; exact h.elim
  | some xs =>
    rw [e] at h
    obtain ⟨a, vs, rfl, q1, q2⟩ := its_DV r.cold hd e
    by_cases hl : xs.length = n
    · simp only [hl, if_true] at h
      exact ⟨a, vs, rfl, by rw [g.K]; exact q1, by rw [← q2.length]; exact hl, a2 w fr env G σ H Q xs vs r q2 h⟩
    · simp only [hl, if_false] at h; exact h.elim
theorem sgs_star {e : Expr} {p : Pos} {es : List Expr} {m1 : MG} {m2 : MGs} {ts us : List Nat} (h1 : SG M X e ts m1) (h2 : SGs M X es us m2) (hs : (assignEach (.Starred e p :: es) X.env).map (·.2) = assign e X.env :: (assignEach es X.env).map (·.2)) : SGs M X (.Starred e p :: es) (ts ++ us) (gsCons m1 m2) := by
  obtain ⟨t, a1, a2⟩ := h1
  obtain ⟨u, b1, b2⟩ := h2
  refine ⟨_, pgs_consS a1 b1 hs, fun w fr env G σ H Q ds vs r hd h => ?_⟩
  cases hd with
  | nil => exact h.elim
  | cons hd hds =>
    rename_i d v ds vs
    refine ⟨v, vs, rfl, a2 w fr env G σ H _ d v r hd ?_⟩
    have h : PostG M fr w G σ (ts ++ us) Q ((m1 d env).bind fun env1 => m2 ds env1) := h
    cases e : m1 d env with
    | none => rw [e] at h; exact h.elim
    | some env1 =>
      rw [e] at h
      have h : PostG M fr w G σ (ts ++ us) Q (m2 ds env1) := h
      intro w' σ' H' l r' ag
      refine b2 w' fr env1 G σ' H' Q ds vs r' (hds.up l) ?_
      cases e2 : m2 ds env1 with
      | none => rw [e2] at h; exact h.elim
      | some env2 =>
        rw [e2] at h
        exact fun w2 σ2 H2 l2 r2 ag2 => h w2 σ2 H2 (l.trans l2) r2 (ag.trans ag2)
theorem sg_star (g : GX M k X) {es : List Expr} {kk n i : Nat} {m : MGs} {ts : List Nat} (h : SGs M X es ts m) (hn : (assignEach es X.env).length = n) (hi : i < n) (hst : (assignEach es X.env).findIdx? (·.1) = some i) : SG M X (.Tuple es kk pos) ts (gSt i n m) := by
  obtain ⟨t, a1, a2⟩ := h
  refine ⟨_, pg_star g.calm a1 hn hi hst, fun w fr env G σ H Q d v r hd h => ?_⟩
  unfold gSt at h
  cases e : itsD d with
  | none => rw [e] at h; exact h.elim
  | some xs =>
    rw [e] at h
    obtain ⟨a, vs, rfl, q1, q2⟩ := its_DV r.cold hd e
    by_cases hl : n - 1 ≤ xs.length ∧ xs.length ≤ LIM
    · simp only [hl, and_self, if_true] at h
      refine ⟨a, vs, rfl, by rw [g.K]; exact q1, by rw [← q2.length]; exact hl.1, fun p hp => ?_⟩
      obtain ⟨l, r1⟩ := r.newCold (o := .lst ((vs.drop i).take (vs.length - i - (n - 1 - i)))) hp
      rw [q2.length] at h
      have dm : DVs M ⟨upd w.C p (.lst ((vs.drop i).take (vs.length - i - (n - 1 - i)))), w.ρ⟩ [.lst ((xs.drop i).take (vs.length - i - (n - 1 - i)))] [.ref p] :=
        .one (.lst upd_same (((q2.drop i).take _).up l))
      refine a2 _ fr env G σ _ Q _ _ r1 (DVs.append (DVs.append ((q2.take i).up l) dm) (((q2.drop i).drop _).up l)) ?_
      cases e2 : m (xs.take i ++ [.lst ((xs.drop i).take (vs.length - i - (n - 1 - i)))] ++ (xs.drop i).drop (vs.length - i - (n - 1 - i))) env with
      | none => rw [e2] at h; exact h.elim
      | some env2 =>
        rw [e2] at h
        exact fun w2 σ2 H2 l2 r2 ag2 => h w2 σ2 H2 (l.trans l2) r2 ag2
    · simp only [hl, if_false] at h; exact h.elim
end
end GL
/-! GL part 14b: the module's constants; unpacking, as wrappers. -/
namespace GL
open PySem L2 PyProof.Rows
/-- a constant of the module -/
def KC (c : Cn) (x : Str) (d : D) : Prop := ∃ v u, c.M.mg x = some u ∧ RelV v u ∧ ∀ w, DV c.M w d v
section
variable {c : Cn} {N : List Str} {sc : Scope} {fnf : Str → Bool} {X : Cx} {W : XW} {x : Str} {d : D} {pos : Pos} {es : List Expr}
theorem w_const (o : OkX c N sc fnf X) (k : KC c x d) (h : chkG sc x = true) : SE c.M W X (.Name x pos) (eC d) := by
  obtain ⟨v, u, h1, h2, h3⟩ := k
  exact se_glob o.g (chkG_gl o h).1 h1 h2 h3 (chkG_gl o h).2.1
theorem kc_str {z : Str} {t : Tok} (h : c.M.mg x = some (.str z t)) : KC c x (.str z) := ⟨.str z, _, h, ⟨t, rfl⟩, fun _ => .str z⟩
theorem kc_int {i : Int} {t : Tok} (h : c.M.mg x = some (.int i t)) : KC c x (.int i) := ⟨.int i, _, h, ⟨t, rfl⟩, fun _ => .int i⟩
/-- data without names of objects, as it stands in the written part -/
inductive KD (K : PySem.W.Frag) : D → Value → Prop
  | non : KD K .non .none
  | bl (b : Bool) : KD K (.bl b) (.bool b)
  | int (i : Int) (t : Tok) : KD K (.int i) (.int i t)
  | str (z : Str) (t : Tok) : KD K (.str z) (.str z t)
theorem KD.dv {K : PySem.W.Frag} {d : D} {u : Value} (h : KD K d u) : ∃ v, RelV v u ∧ ∀ (M : Im) w, DV M w d v := by
  cases h with
  | non => exact ⟨.non, rfl, fun _ _ => .non⟩
  | bl b => exact ⟨.bl b, rfl, fun _ _ => .bl b⟩
  | int i t => exact ⟨.int i, ⟨t, rfl⟩, fun _ _ => .int i⟩
  | str i t => exact ⟨.str i, ⟨t, rfl⟩, fun _ _ => .str i⟩
inductive KDs (K : PySem.W.Frag) : List D → List Value → Prop
  | nil : KDs K [] []
  | cons {d : D} {u : Value} {ds : List D} {us : List Value} : KD K d u → KDs K ds us → KDs K (d :: ds) (u :: us)
theorem KDs.dv {K : PySem.W.Frag} : ∀ {ds : List D} {us : List Value}, KDs K ds us → ∃ vs, Vals vs us ∧ ∀ (M : Im) w, DVs M w ds vs
  | _, _, .nil => ⟨[], .nil, fun _ _ => .nil⟩
  | _, _, .cons a b => by
    obtain ⟨v, h1, h2⟩ := a.dv
    obtain ⟨vs, h3, h4⟩ := KDs.dv b
    exact ⟨v :: vs, .cons h1 h3, fun M w => .cons (h2 M w) (h4 M w)⟩
theorem kc_tup {a : Addr} {od : Option Addr} {its : Array Value} {n : Nat} {sl : Array (Option Value)} {ds : List D} (h : c.M.mg x = some (.ref a)) (l : c.M.K.lookup a = some ⟨.type "tuple", od, .seq its n, sl⟩) (hz : its.size ≤ sizeLine) (hd : KDs c.M.K ds its.toList) : KC c x (.tup ds) := by
  obtain ⟨vs, h1, h2⟩ := hd.dv
  exact ⟨.ref a, _, h, rfl, fun w => .tup (.inr ⟨_, its, n, l, rfl, rfl, hz, h1⟩) (h2 _ w)⟩
theorem w_seq (o : OkX c N sc fnf X) {kk n : Nat} {m : MGs} {ts : List Nat} (h : SGs c.M X es ts m) (hn : (assignEach es X.env).length = n) (hst : (assignEach es X.env).findIdx? (·.1) = none) : SG c.M X (.Tuple es kk pos) ts (gSq n m) := sg_seq o.g h hn hst
theorem w_star (o : OkX c N sc fnf X) {kk n i : Nat} {m : MGs} {ts : List Nat} (h : SGs c.M X es ts m) (hi : i < n) (hn : (assignEach es X.env).length = n) (hst : (assignEach es X.env).findIdx? (·.1) = some i) : SG c.M X (.Tuple es kk pos) ts (gSt i n m) := sg_star o.g h hn hi hst
end
/-- a, b = e, a new list that the frame keeps to itself -/
def sParOwn (i j : Nat) (a : ME) (l : ML) : MS := fun env g => (a env g).bindS fun x g1 => (l env g1).bindS fun xs g2 => if j < env.length then .nx ((env.set i (.val x)).set j (.own xs)) g2 else .bad
theorem RS.setOwnNew {M : Im} {w : Wd} {fr : List (Addr × HO)} {env : Env'} {G : Gh} {σ : L2.St} {H : Hp} {xs : List D} {vs : List V} {p : Addr} (j : Nat) (hl : j < env.length) (r : RS M w fr env G σ H) (dvs : DVs M w xs vs) (hp : H p = none) : RS M w fr (env.set j (.own xs)) G (σ.set j (some (.ref p))) (upd H p (.lst vs)) := by
  obtain ⟨os, g1, sl⟩ := r
  obtain ⟨o1, o2, q1, q2, q3⟩ := sl.setOwn (a := p) dvs j hl
  have g2 := (g1.less (q1.append (List.Sublist.refl fr))).newFr (o := .lst vs) hp
  exact ⟨o2, g2.perm (q2.append_right fr), q3⟩
section
variable {c : Cn} {N : List Str} {sc : Scope} {fnf : Str → Bool} {X : Cx} {W : XW} {x y : Str} {pos : Pos} {a b : Expr} {ma : ME} {ml : ML}
theorem w_parOwn (o : OkX c N sc fnf X) (i j : Nat) {px py pt : Pos} {kt k2 pt2} (hi : chkT N sc fnf i x = true) (hj : chkT N sc fnf j y = true) (hij : i ≠ j) (hx : decide (sc.names.lookup x = some .local) = true) (hy : decide (sc.names.lookup y = some .local) = true)
    (ha : SE c.M W X a ma) (hl : SF c.M W X b ml) (hs1 : starEach [a, b] X.env = (false, eval a X.env) :: starEach [b] X.env) (hs2 : starEach [b] X.env = (false, eval b X.env) :: starEach [] X.env)
    (hk : isFnK sc.kind = true) (hw : decide (swapT sc [.Name x px, .Name y py] [a, b] = some (some [x, y])) = true) :
    SS c.M W X (.Assign [.Tuple [.Name x px, .Name y py] kt pt] (.Tuple [a, b] k2 pt2) pos) (sParOwn i j ma ml) := by
  obtain ⟨ta, a1, a2⟩ := ha
  obtain ⟨tb, b1, b2⟩ := hl
  refine ⟨_, ps_par o.g.calm o.g.nd (chkT_of o hi).1 (chkT_of o hj).1 hij (by rw [o.s]; exact of_decide_eq_true hx) (by rw [o.s]; exact of_decide_eq_true hy) (pa_cons a1 (pa_cons b1 pa_nil hs2) hs1) (swap_eq o hk (of_decide_eq_true hw)) rfl, fun w fr env G σ H D r h => ?_⟩
  refine a2 w fr env G σ H _ r ((PostS.bind h).imp fun d w1 G1 H1 l1 r1 h1 v dv => ?_)
  refine b2 w1 fr env G1 σ H1 _ r1 ((PostS.bind h1).imp fun xs w2 G2 H2 l2 r2 h2 vs p dvs hz hp => ?_)
  by_cases hlt : j < env.length
  · rw [if_pos hlt] at h2
    refine ⟨_, _, rfl, h2 w2 _ _ (Wd.Le.refl w2) ?_⟩
    exact (r2.setVal i (dv.up l2)).setOwnNew j (by simpa using hlt) dvs hp
  · rw [if_neg hlt] at h2; exact h2.elim
end
section
variable {env : Env'} {g : Gh} {ds : List D} {y : MGs} {n i : Nat} {e : ME} {t : MT}
@[simp] theorem gSq_tup : gSq n y (.tup ds) env = if ds.length = n then y ds env else none := rfl
@[simp] theorem gSq_lst : gSq n y (.lst ds) env = if ds.length = n then y ds env else none := rfl
@[simp] theorem gSt_tup : gSt i n y (.tup ds) env = if n - 1 ≤ ds.length ∧ ds.length ≤ LIM then y (ds.take i ++ [.lst ((ds.drop i).take (ds.length - i - (n - 1 - i)))] ++ (ds.drop i).drop (ds.length - i - (n - 1 - i))) env else none := rfl
@[simp] theorem gSt_lst : gSt i n y (.lst ds) env = if n - 1 ≤ ds.length ∧ ds.length ≤ LIM then y (ds.take i ++ [.lst ((ds.drop i).take (ds.length - i - (n - 1 - i)))] ++ (ds.drop i).drop (ds.length - i - (n - 1 - i))) env else none := rfl
@[simp] theorem eBor_ap : eBor i e env g = match env[i]? with
  | some (.own xs) => if frDs xs then (match e (hidE env i xs) [] with
    | .ok d [] => if plD d then .ok d g else .bad
    | _ => .bad) else .bad
  | _ => .bad := rfl
@[simp] theorem tBor_ap : tBor i t env g = match env[i]? with
  | some (.own xs) => if frDs xs then (match t (hidE env i xs) [] with
    | .ok d [] => .ok d g
    | _ => .bad) else .bad
  | _ => .bad := rfl
end
end GL
/-! GL part 16: isinstance, list.count, own lists written at a place, the pick of two own lists, reversed lists. -/
namespace GL
open PySem L2 PyProof.Rows
/-! ### isinstance with a built-in type -/
def tyD : D → Option String
  | .non => some "NoneType" | .bl _ => some "bool" | .int _ => some "int" | .str _ => some "str" | .tup _ => some "tuple" | .lst _ => some "list" | .arr _ => some "list" | _ => none
/-- f answers isinstance(_, T) -/
def IsiK (T : String) (f : D → Option Bool) : Prop := ∀ d b, f d = some b → ∃ t, tyD d = some t ∧ kitB t T = some b
def isInt : D → Option Bool
  | .int _ | .bl _ => some true
  | .non | .str _ | .tup _ | .lst _ | .arr _ => some false
  | _ => none
def isBool : D → Option Bool
  | .bl _ => some true
  | .int _ | .non | .str _ | .tup _ | .lst _ | .arr _ => some false
  | _ => none
def isStr : D → Option Bool
  | .str _ => some true
  | .int _ | .non | .bl _ | .tup _ | .lst _ | .arr _ => some false
  | _ => none
def isTuple : D → Option Bool
  | .tup _ => some true
  | .int _ | .non | .bl _ | .str _ | .lst _ | .arr _ => some false
  | _ => none
def isList : D → Option Bool
  | .lst _ | .arr _ => some true
  | .int _ | .non | .bl _ | .str _ | .tup _ => some false
  | _ => none
theorem isiK_int : IsiK "int" isInt := fun d b h => by
  cases d <;> cases h <;> exact ⟨_, rfl, by decide +kernel⟩
theorem isiK_bool : IsiK "bool" isBool := fun d b h => by
  cases d <;> cases h <;> exact ⟨_, rfl, by decide +kernel⟩
theorem isiK_str : IsiK "str" isStr := fun d b h => by
  cases d <;> cases h <;> exact ⟨_, rfl, by decide +kernel⟩
theorem isiK_tuple : IsiK "tuple" isTuple := fun d b h => by
  cases d <;> cases h <;> exact ⟨_, rfl, by decide +kernel⟩
theorem isiK_list : IsiK "list" isList := fun d b h => by
  cases d <;> cases h <;> exact ⟨_, rfl, by decide +kernel⟩
theorem bt_bool : bootBuiltins "bool" = some (.type "bool") := by decide +kernel
theorem bt_str : bootBuiltins "str" = some (.type "str") := by decide +kernel
theorem bt_isinstance : bootBuiltins "isinstance" = some (.builtin "isinstance") := by decide +kernel
theorem DH.tyX {M : Im} {w : Wd} {H : Hp} {d : D} {v : V} {t : String} (hc : ∀ a o, w.C a = some o → H a = some o) (h : DH M w H d v) (e : tyD d = some t) : TyX M.K H v (.type t) := by
  cases h with
  | lst h1 h2 => cases e; exact .base (.lst h1)
  | dv h n =>
    cases h with
    | non => cases e; exact .base .non
    | bl b => cases e; exact .base (.bl b)
    | int b => cases e; exact .base (.int b)
    | str b => cases e; exact .base (.str b)
    | tup a b =>
      cases e
      rcases SqT.mono hc a with (q | ⟨o, q⟩) | ⟨o, its, m, q1, q2, _⟩
      · exact .base (.tup q)
      · exact .fTuple q
      · exact .kTuple q1 q2
    | lst a b => exact absurd rfl (n _)
    | loc _ => cases e
    | fn _ => cases e
    | arr a =>
      cases e
      rcases SqL.mono hc a with (q | ⟨o, q⟩) | ⟨o, its, m, q1, q2, _⟩
      · exact .base (.lst q)
      · exact .base (.frz q)
      · exact .kList q1 q2
def eIsi (f : D → Option Bool) (a : ME) : ME := fun env g => (a env g).bind fun x g1 => match f (deref g1 x) with
  | some b => .ok (.bl b) g1
  | none => .bad
section
variable {M : Im} {W : XW} {X : Cx} {k n i : Nat} {a b e : Expr} {es : List Expr} {ma mb : ME} {ml : ML} {pos p p2 apos cpos : Pos} {x y xT : Str} {T : String} {f : D → Option Bool}
theorem se_isi (g : GX M k X) (hf : IsiK T f) (hg : Gl X "isinstance") (hm : M.mg "isinstance" = none) (hgT : Gl X xT) (hmT : M.mg xT = none) (hv : bootBuiltins xT = some (.type T)) (hn : xT ≠ "__name__") (hdT : (xT == ("__debug__" : Str)) = false) (ha : SE M W X a ma)
    (he : starEach [a, .Name xT p2] X.env = (false, eval a X.env) :: starEach [.Name xT p2] X.env) :
    SE M W X (.Call (.Name "isinstance" p) [a, .Name xT p2] [] pos) (eIsi f ma) := by
  obtain ⟨t, a1, a2⟩ := ha
  have hT : PE X (.Name xT p2) (tC (.ty T)) := pe_bltn hgT (by rw [g.mg]; exact hmT) hv rfl hn hdT
  refine ⟨_, pe_callB call_isi hg (by rw [g.mg]; exact hm) bt_isinstance (pa_cons a1 (pa_cons hT pa_nil rfl) he) (by decide) (by decide) he rfl, fun w fr env G σ H Q r h => ?_⟩
  refine a2 w fr env G σ H _ r ((Post.bind h).imp fun d w1 G1 H1 l1 r1 h1 v dv => ?_)
  have dh := DH.of r1 dv
  cases q : f (deref G1 d) with
  | none => rw [q] at h1; exact h1.elim
  | some bb =>
    rw [q] at h1
    obtain ⟨t', e1, e2⟩ := hf _ _ q
    have ty := dh.tyX r1.cold e1
    rw [← g.K] at ty
    exact ⟨v, .ty T, .type t', .type T, bb, rfl, .ty T, ty, kit_ty e2, Post.here h1 r1 _ (.bl _)⟩
/-! ### l.count(x) -/
def rCountD (K : PySem.W.Frag) : V → List V → Hp → VK → Prop := fun x xs H Q => ∃ (a : Addr) (y : V) (d : PyData) (ds : List PyData), x = V.ref a ∧ xs = [y] ∧ Dp K H (V.ref a) (.list ds) ∧ Dp K H y d ∧
  SeqAt.shaped (.list ds) = true ∧ SeqAt.shaped d = true ∧ Q (.int ((ds.countP fun z => PyData.eqv z d : Nat))) H
theorem mt_countD (hu : X.A.units + 65 < cLine) : MtR X "list.count" (rCountD X.K) := by
  intro pins s σ H x xs v us Q I rx rxs h
  obtain ⟨a, y, d, ds, rfl, rfl, hl, hy, sl, sd, q⟩ := h
  cases rx
  cases rxs with
  | cons ry rt =>
    rename_i uy ut
    cases rt
    obtain ⟨bs, r1⟩ := Dp.reads I d y uy hy ry
    have hxs : PyData.canLayAll0 ds = true := SeqAt.canLay_of_shaped sl
    have hroom : X.A.units + 1 + min (PyData.depthAll ds) d.depth < cLine := room_in_shaped sd hu
    cases hl with
    | lst hs ha =>
      obtain ⟨its, rv, ⟨⟨cls, dd, data, sls⟩, n, ho, hc, hdn, hdt⟩, hlen⟩ := I.list hs
      simp only at hc hdt
      subst hc hdt
      obtain ⟨as, h4⟩ := Dp.readsAll I ds _ its ha rv
      have hmap : its.map (SeqAt.readOf s.heap) = ds := SeqAt.readsAll_map ds its as hxs h4
      refine call_meets PySem.F.slot_list_count ⟨_, ho, rfl⟩ PySem.F.entry_list_count (PySem.F.args_list_count_2 _ _)
        (SeqAt.list_countAt a its.toArray n dd sls uy (fun u => PyData.eqv (SeqAt.readOf s.heap u) d)) ⟨ho, SeqAt.items_eqAt (vs := its.toArray) (show ReadsAll s.heap its.toArray.toList ds as from h4) r1 hxs (SeqAt.canLay_of_shaped sd) hroom, ?_⟩
      refine ⟨.int _, H, I.tok _, ⟨_, rfl⟩, ?_⟩
      have : (List.countP (fun u => PyData.eqv (SeqAt.readOf s.heap u) d) its.toArray.toList) = ds.countP fun z => PyData.eqv z d := by
        rw [← hmap, List.countP_map]; rfl
      rw [this]; exact q
theorem countP_eqD {xs : List D} {y : D} {n m : Nat} (hx : okDs xs n = true) (hy : okD y m = true) : (toPs xs).countP (fun z => PyData.eqv z (toP y)) = xs.countP fun z => eqD z y := by
  induction xs with
  | nil => rfl
  | cons x xs ih =>
    have hx : okD x n = true ∧ okDs xs n = true := by simpa [okDs] using hx
    simp only [toPs, List.countP_cons, ih hx.2, eqv_eqD x y n m hx.1 hy]
def eCount (a b : ME) : ME := fun env g => (a env g).bind fun x g1 => match deref g1 x with
  | .lst _ => (b env g1).bind fun y g2 => match deref g2 x with
    | .lst xs => guardR (okDs xs 63 && okD y 64) (.int (xs.countP fun z => eqD z y)) g2
    | _ => .bad
  | _ => .bad
theorem se_count (g : GX M k X) (ha : SE M W X a ma) (hb : SE M W X b mb) (hs : starEach [b] X.env = (false, eval b X.env) :: starEach [] X.env) (hbase : attributeBase a "count" X.env (eval a X.env) = eval a X.env) (hline : (apos.endLine == cpos.line) = true)
    (hfew : ((backTo cpos (starEach [b] X.env)).all (fun x => !x.1) && (backToKw cpos (keywordEach [] X.env)).all (fun x => x.1.isSome) && decide ([b].length + ([] : List Keyword).length + (if ([] : List Keyword).isEmpty then 0 else 1) < 30)) = true) :
    SE M W X (.Call (.Attribute a "count" apos) [b] [] cpos) (eCount ma mb) := by
  obtain ⟨t, a1, a2⟩ := ha
  obtain ⟨u, b1, b2⟩ := hb
  refine ⟨_, pe_bm PySem.F.plainAttrs_list PySem.F.slot_list_count PySem.F.type_list_count (mt_countD g.u65) a1 (pa_cons b1 pa_nil hs) hbase hfew hline hs rfl, fun w fr env G σ H Q r h => ?_⟩
  refine a2 w fr env G σ H _ r ((Post.bind h).imp fun d w1 G1 H1 l1 r1 h1 v dv => ?_)
  have dh := DH.of r1 dv
  generalize hq : deref G1 d = d' at *
  cases d' <;> try exact h1.elim
  rename_i xs0
  obtain ⟨q, vs, rfl, hs0, hd0⟩ := dh.list
  refine ⟨.inl ⟨rfl, vs, .inl (.inl hs0)⟩, ?_⟩
  refine b2 w1 fr env G1 σ H1 _ r1 ((Post.bind h1).imp fun y w2 G2 H2 l2 r2 h2 vy dy => ?_)
  have dh2 := DH.of r2 (dv.up l2)
  generalize hq2 : deref G2 d = d2 at *
  cases d2 <;> try exact h2.elim
  rename_i xs
  obtain ⟨q', us, e, hs1, hd1⟩ := dh2.list
  cases e
  obtain ⟨hb', h2⟩ := guard_post (α := D) h2
  have hb' : okDs xs 63 = true ∧ okD y 64 = true := by simpa using hb'
  refine ⟨q, vy, toP y, toPs xs, rfl, rfl, ?_, ?_, ?_, okD_shaped hb'.2, ?_⟩
  · have : Dp M.K H2 (.ref q) (toP (.lst xs)) := DH.dp r2.cold (n := 64) (.lst hs1 hd1) (by simpa only [okD] using hb'.1)
    rw [g.K]; simpa only [toP] using this
  · rw [g.K]; exact dy.dp r2.cold _ _ _ hb'.2
  · have := okD_shaped (d := .lst xs) (by simpa only [okD] using hb'.1)
    simpa only [toP] using this
  · rw [countP_eqD hb'.1 hb'.2]
    exact Post.here h2 r2 _ (.int _)
/-! ### xs[::-1] -/
def eRev (a : ME) : ME := fun env g => (a env g).bind fun x g1 => match deref g1 x with
  | .lst xs => .ok (.lst xs.reverse) g1
  | _ => .bad
theorem DVs.reverse {w : Wd} {ds : List D} {vs : List V} (h : DVs M w ds vs) : DVs M w ds.reverse vs.reverse := by
  induction ds generalizing vs with
  | nil => cases h; exact .nil
  | cons d ds ih =>
    cases h with
    | cons a b => rw [List.reverse_cons, List.reverse_cons]; exact (ih b).append (.cons a .nil)
theorem se_rev (g : GX M k X) (ha : SE M W X a ma) {kk : Nat} {p1 p3 : Pos} : SE M W X (.Subscript a (.Slice none none (some (.UnaryOp .USub (.Constant (.int 1) kk p1) p2)) p3) pos) (eRev ma) := by
  obtain ⟨t, a1, a2⟩ := ha
  refine ⟨_, pe_revL a1, fun w fr env G σ H Q r h => ?_⟩
  refine a2 w fr env G σ H _ r ((Post.bind h).imp fun d w1 G1 H1 l1 r1 h1 v dv => ?_)
  have dh := DH.of r1 dv
  generalize hq : deref G1 d = d' at *
  cases d' <;> try exact h1.elim
  obtain ⟨q, vs, rfl, hs0, hd0⟩ := dh.list
  exact ⟨q, vs, rfl, .inl (.inl hs0), fun p hp => post_lst r1 hd0.reverse h1 hp⟩
/-! ### an own list is written at a place -/
def sOwnSet (i : Nat) (a b : ME) : MS := fun env g => (a env g).bindS fun d g1 => match env[i]? with
  | some (.own _) => (b env g1).bindS fun y g2 => match env[i]?, y with
    | some (.own xs), .int z => match ixN xs.length z with
      | some j => .nx (env.set i (.own (xs.set j d))) g2
      | none => .bad
    | _, _ => .bad
  | _ => .bad
theorem ss_ownSet (g : GX M k X) (hN : X.N[i]? = some x) (hv : Vis X.env.scope x) (hdb : (x == ("__debug__" : Str)) = false) (hcd : (x == ("__classdict__" : Str)) = false) (ha : SE M W X a ma) (hb : SE M W X b mb)
    (hag : ∀ v, assign (.Subscript (.Name x p) b p2) X.env v = (do
      let ov ← holding [v] (eval (.Name x p) X.env)
      let iv ← holding [v, ov] (eval b X.env)
      standAt p2
      holding [v, ov, iv] (setItem ov iv v)
      release [v, ov, iv] []))
    (hs : swapsWithSole [.Subscript (.Name x p) b p2] a pos.line X.env = pure false) (hw : swappedStores [.Subscript (.Name x p) b p2] a X.env = pure none) (h1 : (assignEach [.Subscript (.Name x p) b p2] X.env).map (·.2) = [assign (.Subscript (.Name x p) b p2) X.env]) :
    SS M W X (.Assign [.Subscript (.Name x p) b p2] a pos) (sOwnSet i ma mb) := by
  obtain ⟨t, a1, a2⟩ := ha
  obtain ⟨v, c1, c2⟩ := hb
  refine ⟨_, ps_asg a1 (pg_sub (pe_var (pos := p) hN hv hdb hcd) c1 set_list hag) hs hw h1, fun w fr env G σ H D r h => ?_⟩
  refine a2 w fr env G σ H _ r ((PostS.bind h).imp fun d w1 G1 H1 l1 r1 h1 vd dd => ?_)
  cases q : env[i]? with
  | none => rw [q] at h1; exact h1.elim
  | some s =>
    rw [q] at h1
    cases s with
    | un => exact h1.elim
    | val d => exact h1.elim
    | own xs =>
      obtain ⟨l, vs, e1, e2, e3, _⟩ := r1.getOwn q
      refine ⟨_, e1, ?_⟩
      refine c2 w1 fr env G1 σ H1 _ r1 ((PostS.bind h1).imp fun y w2 G2 H2 l2 r2 h2 vy dy => ?_)
      cases dy <;> try exact h2.elim
      rename_i z
      simp only at h2
      obtain ⟨l', vs', f1, f2, f3, f4⟩ := r2.getOwn q
      rw [e1] at f1; cases f1
      cases e4 : ixN xs.length z with
      | none => rw [e4] at h2; exact h2.elim
      | some jj =>
        rw [e4] at h2
        refine ⟨l, vs', z, jj, rfl, rfl, f2, by rw [← f3.length]; exact e4, ?_⟩
        exact h2 w2 σ _ (Wd.Le.refl w2) (f4 _ _ (f3.set (dd.up l2) jj))
/-! ### [x, y][c].append(e), x and y own lists -/
def sPickApp (i j : Nat) (c e : ME) : MS := fun env g => match env[i]?, env[j]? with
  | some (.own _), some (.own _) => (c env g).bindS fun z g1 => match z with
    | .int 0 => sOwnApp i e env g1
    | .int 1 => sOwnApp j e env g1
    | _ => .bad
  | _, _ => .bad
theorem ss_pickApp (g : GX M k X) {c : Expr} {mc : ME} {j : Nat} {q1 q2 q3 q4 : Pos} (hN : X.N[i]? = some x) (hv : Vis X.env.scope x) (hdb : (x == ("__debug__" : Str)) = false) (hcd : (x == ("__classdict__" : Str)) = false)
    (hN' : X.N[j]? = some y) (hv' : Vis X.env.scope y) (hdb' : (y == ("__debug__" : Str)) = false) (hcd' : (y == ("__classdict__" : Str)) = false) (hc : SE M W X c mc) (ha : SE M W X a ma) (hpl : PlainIx c)
    (hst : starEach [a] X.env = [(false, eval a X.env)]) (hline : (apos.endLine == cpos.line) = true) (hbase : attributeBase (.Subscript (.List [.Name x q1, .Name y q2] q3) c q4) "append" X.env (eval (.Subscript (.List [.Name x q1, .Name y q2] q3) c q4) X.env) = eval (.Subscript (.List [.Name x q1, .Name y q2] q3) c q4) X.env) :
    SS M W X (.Expr (.Call (.Attribute (.Subscript (.List [.Name x q1, .Name y q2] q3) c q4) "append" apos) [a] [] cpos) pos) (sPickApp i j mc ma) := by
  obtain ⟨t, a1, a2⟩ := ha
  obtain ⟨u, c1, c2⟩ := hc
  have hs' : starEach (a :: []) X.env = (false, eval a X.env) :: starEach [] X.env := hst
  have hl : PE X (.List [.Name x q1, .Name y q2] q3) _ := pe_lst (pa_cons (pe_var (pos := q1) hN hv hdb hcd) (pa_cons (pe_var (pos := q2) hN' hv' hdb' hcd') pa_nil rfl) rfl)
  refine ⟨_, ps_expr (pe_bm PySem.F.plainAttrs_list PySem.F.slot_list_append PySem.F.type_list_append mt_append (pe_ix ix_list hl c1 hpl) (pa_cons a1 pa_nil hs') hbase (by rw [hst]; rfl) hline hs' rfl) rfl, fun w fr env G σ H D r h => ?_⟩
  unfold sPickApp at h
  cases q : env[i]? with
  | none => rw [q] at h; exact h.elim
  | some s =>
  cases q' : env[j]? with
  | none => rw [q, q'] at h; cases s <;> exact h.elim
  | some s' =>
  rw [q, q'] at h
  cases s with
  | un => exact h.elim
  | val d => exact h.elim
  | own xs =>
  cases s' with
  | un => exact h.elim
  | val d => exact h.elim
  | own ys =>
  obtain ⟨l, vs, h1, h2, h3, _⟩ := r.getOwn q
  obtain ⟨l', vs', h1', h2', h3', _⟩ := r.getOwn q'
  refine ⟨_, h1, _, h1', (by show 2 ≤ sizeLine; decide), fun p hp => ?_⟩
  obtain ⟨lw, r0⟩ := r.newCold (o := .lst [.ref l, .ref l']) hp
  refine c2 _ fr env G σ _ _ r0 ((PostS.bind (PostS.up h lw)).imp fun z w1 G1 H1 l1 r1 h4 vz dz => ?_)
  have hcold : H1 p = some (.lst [.ref l, .ref l']) := r1.cold _ _ (l1.c _ _ upd_same)
  have fin : ∀ (m : Nat) (zs : List GL.D) (lm : Addr), env[m]? = some (.own zs) → σ[m]? = some (some (.ref lm)) → PostS M W fr w1 D (sOwnApp m ma env G1) →
      tyV X.K "list" (.ref lm) H1 ∧ t σ H1 fun x H2 => rAppend (.ref lm) [x] H2 fun _ H3 => D.nx σ H3 := fun m zs lm hm hσ h5 => by
    obtain ⟨lz, vz', g1, g2, g3, _⟩ := r1.getOwn hm
    rw [hσ] at g1; cases g1
    refine ⟨.inl ⟨rfl, vz', .inl (.inl g2)⟩, ?_⟩
    unfold sOwnApp at h5
    rw [hm] at h5
    refine a2 w1 fr env G1 σ H1 _ r1 ((PostS.bind h5).imp fun d w2 G2 H2 l2 r2 h6 vd dd => ?_)
    by_cases hz : zs.length < LIM
    · rw [if_pos hz] at h6
      obtain ⟨ll, vs2, e1, e2, e3, e4⟩ := r2.getOwn hm
      rw [hσ] at e1; cases e1
      refine ⟨lm, vs2, vd, rfl, rfl, e2, by rw [← e3.length]; exact lim_lt hz, ?_⟩
      exact h6 w2 σ _ (Wd.Le.refl w2) (e4 _ _ (e3.append (.cons dd .nil)))
    · rw [if_neg hz] at h6; exact h6.elim
  cases dz <;> try exact h4.elim
  rename_i zi
  by_cases z0 : zi = 0
  · subst z0
    exact ⟨p, _, 0, .ref l, rfl, rfl, .inl (.inl hcold), rfl, fin i xs l q h1 h4⟩
  by_cases z1 : zi = 1
  · subst z1
    exact ⟨p, _, 1, .ref l', rfl, rfl, .inl (.inl hcold), rfl, fin j ys l' q' h1' h4⟩
  · exfalso
    have : (match GL.D.int zi with | .int 0 => sOwnApp i ma env G1 | .int 1 => sOwnApp j ma env G1 | _ => SR.bad) = SR.bad := by
      split
      · rename_i e; exact absurd (GL.D.int.inj e) z0
      · rename_i e; exact absurd (GL.D.int.inj e) z1
      · rfl
    have h4 : PostS M W fr w1 D (match GL.D.int zi with | .int 0 => sOwnApp i ma env G1 | .int 1 => sOwnApp j ma env G1 | _ => SR.bad) := h4
    rw [this] at h4
    exact h4
end
/-! ### wrappers -/
section
variable {c : Cn} {W : XW} {N : List Str} {sc : Scope} {fnf : Str → Bool} {X : Cx} {a b e : Expr} {ma mb mc : ME} {pos p p2 p3 apos cpos : Pos} {x y xT : Str} {i j : Nat} {T : String} {f : D → Option Bool}
theorem w_isi (o : OkX c N sc fnf X) (hf : IsiK T f) (hv : bootBuiltins xT = some (.type T)) (h : chkG sc "isinstance" = true) (hm : c.M.mg "isinstance" = none) (hT : chkG sc xT = true) (hmT : c.M.mg xT = none) (ha : SE c.M W X a ma)
    (he : starEach [a, .Name xT p2] X.env = (false, eval a X.env) :: starEach [.Name xT p2] X.env) : SE c.M W X (.Call (.Name "isinstance" p) [a, .Name xT p2] [] pos) (eIsi f ma) :=
  se_isi o.g hf (chkG_gl o h).1 hm (chkG_gl o hT).1 hmT hv (chkG_gl o hT).2.2 (chkG_gl o hT).2.1 ha he
theorem w_count (o : OkX c N sc fnf X) (ha : SE c.M W X a ma) (hb : SE c.M W X b mb) (hs : starEach [b] X.env = (false, eval b X.env) :: starEach [] X.env) (hbase : attributeBase a "count" X.env (eval a X.env) = eval a X.env) (hline : (apos.endLine == cpos.line) = true)
    (hfew : ((backTo cpos (starEach [b] X.env)).all (fun x => !x.1) && (backToKw cpos (keywordEach [] X.env)).all (fun x => x.1.isSome) && decide ([b].length + ([] : List Keyword).length + (if ([] : List Keyword).isEmpty then 0 else 1) < 30)) = true) :
    SE c.M W X (.Call (.Attribute a "count" apos) [b] [] cpos) (eCount ma mb) := se_count o.g ha hb hs hbase hline hfew
theorem w_rev (o : OkX c N sc fnf X) (ha : SE c.M W X a ma) {kk : Nat} {p1 : Pos} : SE c.M W X (.Subscript a (.Slice none none (some (.UnaryOp .USub (.Constant (.int 1) kk p1) p2)) p3) pos) (eRev ma) := se_rev o.g ha
theorem w_ownSet (o : OkX c N sc fnf X) (i : Nat) (h : chkV N sc i x = true) (ha : SE c.M W X a ma) (hb : SE c.M W X b mb)
    (hag : ∀ v, assign (.Subscript (.Name x p) b p2) X.env v = (do
      let ov ← holding [v] (eval (.Name x p) X.env)
      let iv ← holding [v, ov] (eval b X.env)
      standAt p2
      holding [v, ov, iv] (setItem ov iv v)
      release [v, ov, iv] []))
    (hs : swapsWithSole [.Subscript (.Name x p) b p2] a pos.line X.env = pure false) (hw : swappedStores [.Subscript (.Name x p) b p2] a X.env = pure none) (h1 : (assignEach [.Subscript (.Name x p) b p2] X.env).map (·.2) = [assign (.Subscript (.Name x p) b p2) X.env]) :
    SS c.M W X (.Assign [.Subscript (.Name x p) b p2] a pos) (sOwnSet i ma mb) :=
  ss_ownSet o.g (chkV_of o h).1 (chkV_of o h).2.1 (chkV_of o h).2.2.1 (chkV_of o h).2.2.2 ha hb hag hs hw h1
theorem w_pickApp (o : OkX c N sc fnf X) (i j : Nat) {q1 q2 q3 q4 : Pos} {cc : Expr} (h : chkV N sc i x = true) (h' : chkV N sc j y = true) (hc : SE c.M W X cc mc) (ha : SE c.M W X a ma) (hpl : PlainIx cc)
    (hst : starEach [a] X.env = [(false, eval a X.env)]) (hline : (apos.endLine == cpos.line) = true) (hbase : attributeBase (.Subscript (.List [.Name x q1, .Name y q2] q3) cc q4) "append" X.env (eval (.Subscript (.List [.Name x q1, .Name y q2] q3) cc q4) X.env) = eval (.Subscript (.List [.Name x q1, .Name y q2] q3) cc q4) X.env) :
    SS c.M W X (.Expr (.Call (.Attribute (.Subscript (.List [.Name x q1, .Name y q2] q3) cc q4) "append" apos) [a] [] cpos) pos) (sPickApp i j mc ma) :=
  ss_pickApp o.g (chkV_of o h).1 (chkV_of o h).2.1 (chkV_of o h).2.2.1 (chkV_of o h).2.2.2 (chkV_of o h').1 (chkV_of o h').2.1 (chkV_of o h').2.2.1 (chkV_of o h').2.2.2 hc ha hpl hst hline hbase
/-- x, y = [..], [..], both the frame's own -/
def sParOwn2 (i j : Nat) (l l' : ML) : MS := fun env g => (l env g).bindS fun xs g1 => (l' env g1).bindS fun ys g2 => if i < env.length ∧ j < env.length then .nx ((env.set i (.own xs)).set j (.own ys)) g2 else .bad
theorem RS.lessFr {M : Im} {w : Wd} {fr : List (Addr × HO)} {env : Env'} {G : Gh} {σ : L2.St} {H : Hp} {q : Addr × HO} (r : RS M w (q :: fr) env G σ H) : RS M w fr env G σ H := by
  obtain ⟨os, g, sl⟩ := r
  exact ⟨os, g.less ((List.Sublist.refl os).append (List.sublist_cons_self q fr)), sl⟩
theorem Post.lessFr {α : Type} {M : Im} {W : XW} {w : Wd} {fr : List (Addr × HO)} {env : Env'} {σ : L2.St} {q : Addr × HO} {P : α → Wd → Gh → Hp → Prop} {r : R α} (h : Post M W fr env σ w P r) : Post M W (q :: fr) env σ w P r := by
  cases r with
  | ok a G => exact fun w' H' l r' => h w' H' l r'.lessFr
  | exc x G => exact fun w' H' l r' => h w' H' l (r'.less (List.sublist_cons_self q fr))
  | bad => exact h
theorem RS.keepNew {M : Im} {w : Wd} {fr : List (Addr × HO)} {env : Env'} {G : Gh} {σ : L2.St} {H : Hp} {p : Addr} {o : HO} (r : RS M w fr env G σ H) (hp : H p = none) : RS M w ((p, o) :: fr) env G σ (upd H p o) := by
  obtain ⟨os, g, sl⟩ := r
  exact ⟨os, (g.newFr hp).perm List.perm_middle.symm, sl⟩
theorem RS.setOwnOf {M : Im} {w : Wd} {fr : List (Addr × HO)} {env : Env'} {G : Gh} {σ : L2.St} {H : Hp} {xs : List D} {vs : List V} {p : Addr} (j : Nat) (hl : j < env.length) (r : RS M w ((p, .lst vs) :: fr) env G σ H) (dvs : DVs M w xs vs) : RS M w fr (env.set j (.own xs)) G (σ.set j (some (.ref p))) H := by
  obtain ⟨os, g1, sl⟩ := r
  obtain ⟨o1, o2, q1, q2, q3⟩ := sl.setOwn (a := p) dvs j hl
  have g2 : RG M w ((p, .lst vs) :: (os ++ fr)) G H := g1.perm List.perm_middle
  have g3 : RG M w ((p, .lst vs) :: (o1 ++ fr)) G H := g2.less ((q1.append (List.Sublist.refl fr)).cons_cons _)
  exact ⟨o2, g3.perm (q2.append_right fr), q3⟩
theorem w_parOwn2 (o : OkX c N sc fnf X) (i j : Nat) {ml ml' : ML} {px py pt : Pos} {kt k2 pt2} (hi : chkT N sc fnf i x = true) (hj : chkT N sc fnf j y = true) (hij : i ≠ j) (hx : decide (sc.names.lookup x = some .local) = true) (hy : decide (sc.names.lookup y = some .local) = true)
    (ha : SF c.M W X a ml) (hl : SF c.M W X b ml') (hs1 : starEach [a, b] X.env = (false, eval a X.env) :: starEach [b] X.env) (hs2 : starEach [b] X.env = (false, eval b X.env) :: starEach [] X.env)
    (hk : isFnK sc.kind = true) (hw : decide (swapT sc [.Name x px, .Name y py] [a, b] = some (some [x, y])) = true) :
    SS c.M W X (.Assign [.Tuple [.Name x px, .Name y py] kt pt] (.Tuple [a, b] k2 pt2) pos) (sParOwn2 i j ml ml') := by
  obtain ⟨ta, a1, a2⟩ := ha
  obtain ⟨tb, b1, b2⟩ := hl
  refine ⟨_, ps_par o.g.calm o.g.nd (chkT_of o hi).1 (chkT_of o hj).1 hij (by rw [o.s]; exact of_decide_eq_true hx) (by rw [o.s]; exact of_decide_eq_true hy) (pa_cons a1 (pa_cons b1 pa_nil hs2) hs1) (swap_eq o hk (of_decide_eq_true hw)) rfl, fun w fr env G σ H D r h => ?_⟩
  refine a2 w fr env G σ H _ r ((PostS.bind h).imp fun xs w1 G1 H1 l1 r1 h1 vs p dvs hz hp => ?_)
  have r1' := r1.keepNew (o := .lst vs) hp
  refine b2 w1 _ env G1 σ _ _ r1' ((Post.lessFr (PostS.bind h1)).imp fun ys w2 G2 H2 l2 r2 h2 us q dvs2 hz2 hq => ?_)
  by_cases hlt : i < env.length ∧ j < env.length
  · rw [if_pos hlt] at h2
    refine ⟨_, _, rfl, h2 w2 _ _ (Wd.Le.refl w2) ?_⟩
    exact (RS.setOwnOf i hlt.1 r2 (dvs.up l2)).setOwnNew j (by simpa using hlt.2) dvs2 hq
  · rw [if_neg hlt] at h2; exact h2.elim
end
end GL
/-! GL part 17: list comprehensions of two clauses. -/
namespace GL
open PySem L2
open Classical in
noncomputable def compL2 (gd : Gd) (tg : MG) (t : MT) (it1 : MI) (tg1 : MG) (t1 : MT) (e : ME) (vs1 : List Nat) : List D → Env' → Gh → R (List D)
  | [], _, g => if gdOk gd g then .ok [] g else .bad
  | d :: ds, env, g => if gdOk gd g then (match tg d env with
      | none => .bad
      | some env1 => match t env1 g with
        | .ok k g1 => if k then (match it1 env1 g1 with
            | .ok p g2 => (match compL p.2 tg1 t1 e p.1 (blkE env1 vs1) g2 with
              | .ok ys g3 => (match compL2 gd tg t it1 tg1 t1 e vs1 ds env g3 with
                | .ok zs g4 => .ok (ys ++ zs) g4
                | _ => .bad)
              | _ => .bad)
            | _ => .bad) else compL2 gd tg t it1 tg1 t1 e vs1 ds env g1
        | _ => .bad) else .bad
noncomputable def lComp2 (it : MI) (tg : MG) (t : MT) (it1 : MI) (tg1 : MG) (t1 : MT) (e : ME) (vs vs1 : List Nat) : ML := fun env g => (it env g).bind fun p g1 => match compL2 p.2 tg t it1 tg1 t1 e vs1 p.1 (blkE env vs) g1 with
  | .ok ys g2 => if ys.length ≤ LIM then .ok ys g2 else .bad
  | _ => .bad
def iOf (M : Im) (W : XW) (m : MI) : TI := fun σ H Q => ∃ w fr env G, RS M w fr env G σ H ∧ Post M W fr env σ w (fun p w' G' H' => ∀ J, ItOk M w' p.2 J p.1 → gdOk p.2 G' → Q J H') (m env G)
section
variable {M : Im} {W : XW} {X : Cx} {k : Nat}
theorem SI.pi {tg e : Expr} {m : MI} (h : SI M W X tg e m) : PI X tg e (iOf M W m) := by
  obtain ⟨t, h1, h2⟩ := h
  exact ⟨fun pins s σ H Q I ⟨w, fr, env, G, r, p⟩ => h1.run pins s σ H Q I (h2 w fr env G σ H Q r p)⟩
end
theorem SlR.wipeO {M : Im} {w : Wd} {os : List (Addr × HO)} {env : Env'} {σ : L2.St} (h : SlR M w os env σ) : ∀ vs : List Nat, ∃ os', os'.Sublist os ∧ SlR M w os' (wipeE env vs) (L2.wipe σ vs)
  | [] => ⟨os, .refl _, h⟩
  | v :: vs => by
    obtain ⟨o1, h1, h2⟩ := SlR.wipeO h vs
    obtain ⟨o2, h3, h4⟩ := SlR.wipe1 (o := none) v h2
    exact ⟨o2, h3.trans h1, h4⟩
theorem RS.wipe {M : Im} {w : Wd} {fr : List (Addr × HO)} {env : Env'} {G : Gh} {σ : L2.St} {H : Hp} (r : RS M w fr env G σ H) (vs : List Nat) : RS M w fr (wipeE env vs) G (L2.wipe σ vs) H := by
  obtain ⟨os, g, sl⟩ := r
  obtain ⟨o1, h1, h2⟩ := sl.wipeO vs
  exact ⟨o1, g.less (h1.append (.refl _)), h2⟩
section
variable {M : Im} {W : XW} {X : Cx} {k : Nat} {elt tg iter tg1 iter1 : Expr} {ifs ifs1 : List Expr} {scope : Scope} {own : List (Str × Nat)} {pos : Pos} {wi : TI} {mi mi1 : MI} {mg mg1 : MG} {mt mt1 : MT} {me : ME} {ts ts1 : List Nat} {vs vs1 : List Nat}
theorem compL_gd {gd : Gd} {tg : MG} {t : MT} {e : ME} {ds : List D} {env : Env'} {g g' : Gh} {ys : List D} (h : compL gd tg t e ds env g = .ok ys g') : gdOk gd g := by
  by_cases q : gdOk gd g
  · exact q
  · exfalso
    cases ds with
    | nil => unfold compL at h; rw [if_neg q] at h; cases h
    | cons d r => unfold compL at h; rw [if_neg q] at h; cases h
theorem compL2_gd {gd : Gd} {tg tg1 : MG} {t t1 : MT} {it1 : MI} {e : ME} {ds : List D} {env : Env'} {g g' : Gh} {ys : List D} (h : compL2 gd tg t it1 tg1 t1 e vs1 ds env g = .ok ys g') : gdOk gd g := by
  by_cases q : gdOk gd g
  · exact q
  · exfalso
    cases ds with
    | nil => unfold compL2 at h; rw [if_neg q] at h; cases h
    | cons d r => unfold compL2 at h; rw [if_neg q] at h; cases h
/-- the second clause's loop within the first's: acc stands in D -/
theorem lc2_inner (hts1 : ∀ i ∈ ts1, i ∈ vs1) {J1 : It} {gd1 : Gd} {ds1 : List GL.D} {env1 : Env'} {σ2 : L2.St} {Gf : Gh} {w0 : Wd} {fr : List (Addr × HO)} {D : Addr} {Nx : Hp → Prop} {ys accD : List GL.D} {accV : List V} {G : Gh} {H : Hp}
    (jo : ItOk M w0 gd1 J1 ds1) (sl : SlR M w0 [] (blkE env1 vs1) (L2.wipe σ2 vs1)) (g0 : RG M w0 ((D, .lst accV) :: fr) G H) (da : DVs M w0 accD accV) (e0 : compL gd1 mg1 mt1 me ds1 (blkE env1 vs1) G = .ok ys Gf) (hlen : accD.length + ys.length ≤ LIM)
    (hN : ∀ w' H' us, w0.Le w' → RG M w' ((D, .lst us) :: fr) Gf H' → DVs M w' (accD ++ ys) us → Nx H') :
    ∃ W1 : Nat → Nat → Hp → Prop, (∃ m, W1 0 m H) ∧ ∀ j k H, W1 j k H →
      (J1.stop j H ∧ Nx H) ∨ (J1.go j H ∧ ∃ Nx1 : Hp → Prop, (∀ H', Nx1 H' → ∃ k', k' < k ∧ W1 (j + 1) k' H') ∧ ∀ x H', J1.yld j H x H' → gOf M ts1 mg1 x (L2.wipe σ2 vs1) H' fun σ3 H5 => L2.wipe σ3 vs1 = L2.wipe σ2 vs1 ∧ ttOf M W0 mt1 σ3 H5 fun b H6 =>
        if b = true then tOf M W0 me σ3 H6 fun y H7 => ∃ acc, H7 D = some (.lst acc) ∧ acc.length < sizeLine ∧ Nx1 (upd H7 D (.lst (acc ++ [y]))) else Nx1 H6) := by
  let St : Nat → Hp → Prop := fun i H' => ∃ w' G' aD aV ys', w0.Le w' ∧ RG M w' ((D, .lst aV) :: fr) G' H' ∧ DVs M w' aD aV ∧ compL gd1 mg1 mt1 me (ds1.drop i) (blkE env1 vs1) G' = .ok ys' Gf ∧ aD ++ ys' = accD ++ ys
  refine ⟨fun i m H' => St i H' ∧ m = ds1.length - i ∧ i ≤ ds1.length, ⟨_, ⟨w0, G, accD, accV, ys, Wd.Le.refl w0, g0, da, e0, rfl⟩, rfl, Nat.zero_le _⟩, ?_⟩
  rintro i m H' ⟨⟨w', G', aD, aV, ys', l', g', da', e', ey⟩, rfl, hi⟩
  have rb : RS M w' ((D, .lst aV) :: fr) (blkE env1 vs1) G' (L2.wipe σ2 vs1) H' := ⟨[], g', sl.up l'⟩
  have hgd : gdOk gd1 G' := compL_gd e'
  by_cases hlt : i < ds1.length
  · rw [List.drop_eq_getElem_cons hlt] at e'
    unfold compL at e'
    rw [if_pos hgd] at e'
    cases e1 : mg1 ds1[i] (blkE env1 vs1) with
    | none => rw [e1] at e'; cases e'
    | some env2 =>
      rw [e1] at e'
      simp only at e'
      cases e2 : mt1 env2 G' with
      | bad => rw [e2] at e'; cases e'
      | exc x g => rw [e2] at e'; cases e'
      | ok kk g2 =>
        rw [e2] at e'
        simp only at e'
        refine .inr ⟨jo.go i w' _ _ G' _ H' l' rb hgd hlt, St (i + 1), fun H2 st => ⟨ds1.length - (i + 1), by omega, st, rfl, hlt⟩, fun x H2 hy => ?_⟩
        obtain ⟨w2, l2, r2, dv⟩ := jo.yld i w' _ _ G' _ H' x H2 ds1[i] l' rb hgd (List.getElem?_eq_getElem hlt) hy
        refine ⟨w2, (D, .lst aV) :: fr, blkE env1 vs1, G', ds1[i], r2, dv, ?_⟩
        rw [e1]
        intro w3 σ3 H3 l3 r3 ag3
        have ag : L2.wipe σ3 vs1 = L2.wipe σ2 vs1 := by
          rw [wipe_ag vs1 (ag3.mono hts1)]
          exact wipe_ag vs1 ⟨by rw [wipe_length], fun j hj => by
            have : ∀ (l : List Nat), j ∉ l → (L2.wipe σ2 l)[j]? = σ2[j]? := fun l => wipe_out
            exact this vs1 hj⟩
        refine ⟨ag, w3, _, env2, G', r3, ?_⟩
        rw [e2]
        intro w4 H4 l4 r4
        show if kk = true then _ else _
        cases kk with
        | false =>
          simp only [Bool.false_eq_true, if_false] at e' ⊢
          obtain ⟨oo, g4, s4⟩ := r4
          exact ⟨w4, g2, aD, aV, ys', ((l'.trans l2).trans l3).trans l4, (g4.less (List.sublist_append_right _ _)), da'.up ((l2.trans l3).trans l4), e', ey⟩
        | true =>
          simp only [if_true] at e' ⊢
          cases e3 : me env2 g2 with
          | bad => rw [e3] at e'; cases e'
          | exc x g => rw [e3] at e'; cases e'
          | ok y g3 =>
            rw [e3] at e'
            simp only at e'
            cases e4 : compL gd1 mg1 mt1 me (ds1.drop (i + 1)) (blkE env1 vs1) g3 with
            | bad => rw [e4] at e'; cases e'
            | exc x g => rw [e4] at e'; cases e'
            | ok ys2 g4 =>
              rw [e4] at e'
              have q : R.ok (y :: ys2) g4 = R.ok ys' Gf := e'
              injection q with q1 q2
              subst q1 q2
              refine ⟨w4, _, env2, g2, r4, ?_⟩
              rw [e3]
              intro w5 H5 l5 r5 vy dy
              obtain ⟨oo, g5, s5⟩ := r5
              have g5' := g5.less (List.sublist_append_right oo ((D, HO.lst aV) :: fr))
              have lall := (((l'.trans l2).trans l3).trans l4).trans l5
              have lda := ((l2.trans l3).trans l4).trans l5
              refine ⟨aV, g5'.frm (D, .lst aV) List.mem_cons_self, ?_, ?_⟩
              · rw [← (da'.length)]
                have : (aD ++ y :: ys2).length = (accD ++ ys).length := by rw [ey]
                simp only [List.length_append, List.length_cons] at this
                exact lim_lt (by omega)
              · refine ⟨w5, g3, aD ++ [y], aV ++ [vy], ys2, lall, ?_, (da'.up lda).append (.cons dy .nil), e4, by rw [← ey]; simp⟩
                exact RG.setFr (f1 := []) g5'
  · have ei : i = ds1.length := by omega
    subst ei
    rw [List.drop_length] at e'
    unfold compL at e'
    rw [if_pos hgd] at e'
    have q : R.ok ([] : List GL.D) G' = R.ok ys' Gf := e'
    injection q with q1 q2
    subst q1 q2
    rw [List.append_nil] at ey
    exact .inl ⟨jo.stop w' _ _ G' _ H' l' rb hgd, hN w' H' aV l' g' (by rw [← ey]; exact da')⟩
theorem lc2_read (i2 : ∀ w fr env G σ H Q, RS M w fr env G σ H → Post M W fr env σ w (fun p w' G' H' => ∀ J, ItOk M w' p.2 J p.1 → gdOk p.2 G' → Q J H') (mi env G) → wi σ H Q) (hts : ∀ i ∈ ts, i ∈ vs) (hts1 : ∀ i ∈ ts1, i ∈ vs1)
    {w : Wd} {fr : List (Addr × HO)} {env : Env'} {G : Gh} {σ : L2.St} {H : Hp} {Q : VK} (r : RS M w fr env G σ H) (h : Post M W fr env σ w (PF' M Q) (lComp2 mi mg mt mi1 mg1 mt1 me vs vs1 env G)) :
    tLc2 wi (gOf M ts mg) (ttOf M W0 mt) (iOf M W0 mi1) (gOf M ts1 mg1) (ttOf M W0 mt1) (tOf M W0 me) vs vs1 σ H Q := by
  refine i2 w fr env G σ H _ r ((Post.bind h).imp fun p w1 G1 H1 l1 r1 h1 J jo gok => ?_)
  obtain ⟨ds, gd⟩ := p
  simp only at h1 jo gok
  cases e : compL2 gd mg mt mi1 mg1 mt1 me vs1 ds (blkE env vs) G1 with
  | bad => rw [e] at h1; exact h1.elim
  | exc x g => rw [e] at h1; exact h1.elim
  | ok ys Gf =>
    rw [e] at h1
    by_cases hlen : ys.length ≤ LIM
    · simp only [hlen, if_true] at h1
      intro D hD
      obtain ⟨os, g1, sl⟩ := r1
      have sb : SlR M w1 [] (blkE env vs) (L2.wipe σ vs) := SlR.wipe sl.hide vs
      let St : Nat → Hp → Prop := fun i H' => ∃ w' G' accD accV ys', w1.Le w' ∧ RG M w' ((D, .lst accV) :: (os ++ fr)) G' H' ∧ DVs M w' accD accV ∧ compL2 gd mg mt mi1 mg1 mt1 me vs1 (ds.drop i) (blkE env vs) G' = .ok ys' Gf ∧ accD ++ ys' = ys
      refine ⟨fun i m H' => St i H' ∧ m = ds.length - i ∧ i ≤ ds.length, ⟨_, ⟨w1, G1, [], [], ys, Wd.Le.refl w1, g1.newFr hD, .nil, e, rfl⟩, rfl, Nat.zero_le _⟩, ?_⟩
      rintro i m H' ⟨⟨w', G', accD, accV, ys', l', g', da, e', ey⟩, rfl, hi⟩
      have rb : RS M w' ((D, .lst accV) :: (os ++ fr)) (blkE env vs) G' (L2.wipe σ vs) H' := ⟨[], g', sb.up l'⟩
      have hgd : gdOk gd G' := compL2_gd e'
      by_cases hlt : i < ds.length
      · rw [List.drop_eq_getElem_cons hlt] at e'
        unfold compL2 at e'
        rw [if_pos hgd] at e'
        cases e1 : mg ds[i] (blkE env vs) with
        | none => rw [e1] at e'; cases e'
        | some env1 =>
          rw [e1] at e'
          simp only at e'
          cases e2 : mt env1 G' with
          | bad => rw [e2] at e'; cases e'
          | exc x g => rw [e2] at e'; cases e'
          | ok kk g2 =>
            rw [e2] at e'
            simp only at e'
            refine .inr ⟨jo.go i w' _ _ G' _ H' l' rb hgd hlt, St (i + 1), fun H2 st => ⟨ds.length - (i + 1), by omega, st, rfl, hlt⟩, fun x H2 hy => ?_⟩
            obtain ⟨w2, l2, r2, dv⟩ := jo.yld i w' _ _ G' _ H' x H2 ds[i] l' rb hgd (List.getElem?_eq_getElem hlt) hy
            refine ⟨w2, (D, .lst accV) :: (os ++ fr), blkE env vs, G', ds[i], r2, dv, ?_⟩
            rw [e1]
            intro w3 σ3 H3 l3 r3 ag3
            have ag : L2.wipe σ3 vs = L2.wipe σ vs := by
              rw [wipe_ag vs (ag3.mono hts)]
              exact wipe_ag vs ⟨by rw [wipe_length], fun j hj => by
                have : ∀ (l : List Nat), j ∉ l → (L2.wipe σ l)[j]? = σ[j]? := fun l => wipe_out
                exact this vs hj⟩
            refine ⟨ag, w3, _, env1, G', r3, ?_⟩
            rw [e2]
            intro w4 H4 l4 r4
            show if kk = true then _ else _
            cases kk with
            | false =>
              simp only [Bool.false_eq_true, if_false] at e' ⊢
              obtain ⟨oo, g4, s4⟩ := r4
              exact ⟨w4, g2, accD, accV, ys', ((l'.trans l2).trans l3).trans l4, (g4.less (List.sublist_append_right _ _)), da.up ((l2.trans l3).trans l4), e', ey⟩
            | true =>
              simp only [if_true] at e' ⊢
              cases e3 : mi1 env1 g2 with
              | bad => rw [e3] at e'; cases e'
              | exc x g => rw [e3] at e'; cases e'
              | ok p3 g3 =>
                rw [e3] at e'
                simp only at e'
                cases e5 : compL p3.2 mg1 mt1 me p3.1 (blkE env1 vs1) g3 with
                | bad => rw [e5] at e'; cases e'
                | exc x g => rw [e5] at e'; cases e'
                | ok ys1 g4 =>
                  rw [e5] at e'
                  simp only at e'
                  cases e4 : compL2 gd mg mt mi1 mg1 mt1 me vs1 (ds.drop (i + 1)) (blkE env vs) g4 with
                  | bad => rw [e4] at e'; cases e'
                  | exc x g => rw [e4] at e'; cases e'
                  | ok ys2 g5 =>
                    rw [e4] at e'
                    have q : R.ok (ys1 ++ ys2) g5 = R.ok ys' Gf := e'
                    injection q with q1 q2
                    subst q1 q2
                    refine ⟨w4, _, env1, g2, r4, ?_⟩
                    rw [e3]
                    intro w5 H5 l5 r5 J1 jo1 gok1
                    obtain ⟨oo, g6, s6⟩ := r5
                    have g6' := g6.less (List.sublist_append_right oo ((D, HO.lst accV) :: (os ++ fr)))
                    have lall := (((l'.trans l2).trans l3).trans l4).trans l5
                    have lda := ((l2.trans l3).trans l4).trans l5
                    refine lc2_inner hts1 jo1 (SlR.wipe s6.hide vs1) g6' (da.up lda) e5 ?_ fun w7 H7 us l7 g7 d7 => ?_
                    · have : (accD ++ (ys1 ++ ys2)).length = ys.length := by rw [ey]
                      simp only [List.length_append] at this
                      omega
                    · exact ⟨w7, g4, accD ++ ys1, us, ys2, lall.trans l7, g7, d7, e4, by rw [List.append_assoc]; exact ey⟩
      · have ei : i = ds.length := by omega
        subst ei
        rw [List.drop_length] at e'
        unfold compL2 at e'
        rw [if_pos hgd] at e'
        have q : R.ok ([] : List GL.D) G' = R.ok ys' Gf := e'
        injection q with q1 q2
        subst q1 q2
        rw [List.append_nil] at ey
        subst ey
        refine .inl ⟨jo.stop w' _ _ G' _ H' l' rb hgd, ?_⟩
        have hfr := g'.frm (D, .lst accV) List.mem_cons_self
        have ro : RS M w' fr env G' σ (outA H' D) := ⟨os, g'.out, sl.up l'⟩
        have := h1 w' _ l' ro accV D da (by rw [← da.length]; exact lim_le hlen) outA_same
        rw [outA_upd hfr] at this
        exact this
    · simp only [hlen, if_false] at h1; exact h1.elim
end
section
variable {c : Cn} {W : XW} {N : List Str} {sc : Scope} {fnf : Str → Bool} {X : Cx} {elt tg iter tg1 iter1 : Expr} {ifs ifs1 : List Expr} {scope : Scope} {pos : Pos} {mi mi1 : MI} {mg mg1 : MG} {mt mt1 : MT} {me : ME} {ts ts1 : List Nat}
/-- [elt for tg in iter if .. for tg1 in iter1 if ..] -/
theorem w_comp2 (o : OkX c N sc fnf X) (own : List (Str × Nat)) (vs1 : List Nat) (hb : blkC N sc scope own = true) (hi : SI c.M W X tg iter mi)
    (hg : ∀ X', OkX c N (relS scope sc) (fun x => scope.names.lookup x == some .cell) X' → SG c.M X' tg ts mg) (ht : ∀ X', OkX c N (relS scope sc) (fun x => scope.names.lookup x == some .cell) X' → STs c.M W0 X' ifs mt)
    (hi1 : ∀ X', OkX c N (relS scope sc) (fun x => scope.names.lookup x == some .cell) X' → SI c.M W0 X' tg1 iter1 mi1)
    (hg1 : ∀ X', OkX c N (relS scope sc) (fun x => scope.names.lookup x == some .cell) X' → SG c.M X' tg1 ts1 mg1) (ht1 : ∀ X', OkX c N (relS scope sc) (fun x => scope.names.lookup x == some .cell) X' → STs c.M W0 X' ifs1 mt1)
    (he : ∀ X', OkX c N (relS scope sc) (fun x => scope.names.lookup x == some .cell) X' → SE c.M W0 X' elt me) (hts : (ts.all fun i => (own.map (·.2)).contains i) = true) (hts1 : (ts1.all fun i => vs1.contains i) = true) (hv : (vs1.all fun i => (own.map (·.2)).contains i) = true)
    (hs : ∀ x, foldedSetIterable iter X.env x = pure x) (hs1 : ∀ env x, foldedSetIterable iter1 env x = pure x) :
    SF c.M W X (.ListComp elt [⟨tg, iter, ifs, 0⟩, ⟨tg1, iter1, ifs1, 0⟩] scope pos) (lComp2 mi mg mt mi1 mg1 mt1 me (own.map (·.2)) vs1) := by
  obtain ⟨wi, i1, i2⟩ := hi
  refine ⟨_, pe_lc2 (vs1 := vs1) o.g.calm o.g.nd i1 (by rw [o.n, o.s]; exact blkOk_by hb) (fun i hi => List.contains_iff_mem.mp (List.all_eq_true.mp hv i hi)) (fun s H C cl fp => (hg _ (o.blk s H C cl fp)).pg) (fun s H C cl fp => ht _ (o.blk s H C cl fp)) (fun s H C cl fp => (hi1 _ (o.blk s H C cl fp)).pi)
    (fun s H C cl fp => (hg1 _ (o.blk s H C cl fp)).pg) (fun s H C cl fp => ht1 _ (o.blk s H C cl fp)) (fun s H C cl fp => (he _ (o.blk s H C cl fp)).pe) hs hs1, fun w fr env G σ H Q r h => ?_⟩
  exact lc2_read i2 (fun i hi => List.contains_iff_mem.mp (List.all_eq_true.mp hts i hi)) (fun i hi => List.contains_iff_mem.mp (List.all_eq_true.mp hts1 i hi)) r h
end
end GL
/-! GL part 18: defs with defaults. -/
namespace GL
open PySem L2 PyProof.Rows
section
variable {M : Im} {f : Addr} {fd : FuncData} {x qual : Str} {params : Arguments} {body : List Stmt} {scope : Scope} {ps ks : List Str} {n : Nat} {pm : List Nat} {dvs : List V} {kws : List (Str × V)}
/-- all parameters are handed in -/
theorem bnd_ofK (F : FunD M.K x qual params body scope [] kws f fd)
    (h : ∀ (kV doc pm' : Value) (an : Option Addr) (cdv ct : Value) (us ws : List Value), us.length = n → ws.length = ks.length → bindArgs (PySem.W.fnOf x qual params body scope .none kV doc pm' an cdv ct) ⟨us, ks.zip ws⟩ = pure (ps.zip (permL pm (us ++ ws ++ [])))) : Bnd M fd ps n ks pm [] := by
  obtain ⟨oc, od, dV, kV, doc, pm', an, cdv, ct, osl, rfl, lk, hcd, hD, _⟩ := F.ex
  rcases hD with ⟨_, rfl⟩ | ⟨q, _⟩
  · exact Bnd.plain fun us ws h1 h2 => h kV doc pm' an cdv ct us ws h1 h2
  · exact absurd rfl q
/-- keyword-only parameters ms are left out -/
theorem bnd_kw (F : FunD M.K x qual params body scope [] kws f fd) (ms : List (Str × V)) {dd : List D} (hms : ∀ q ∈ ms, q ∈ kws) (hk : kws ≠ []) (hdd : ∀ w, DVs M w dd (ms.map (·.2)))
    (h : ∀ (D : Addr) (doc pm' : Value) (an : Option Addr) (cdv ct : Value) (us ws mv : List Value), us.length = n → ws.length = ks.length → mv.length = ms.length →
      KwChain D ((ms.map (·.1)).zip mv) (bindArgs (PySem.W.fnOf x qual params body scope .none (.ref D) doc pm' an cdv ct) ⟨us, ks.zip ws⟩) (ps.zip (permL pm (us ++ ws ++ mv)))) : Bnd M fd ps n ks pm dd := by
  obtain ⟨oc, od, dV, kV, doc, pm', an, cdv, ct, osl, rfl, lk, hcd, hD, hK⟩ := F.ex
  rcases hD with ⟨_, rfl⟩ | ⟨q, _⟩
  · rcases hK with e | ⟨D, rfl, hq⟩
    · exact absurd e hk
    · obtain ⟨mv, hl, rk, hks⟩ := kwd_vals (ms := ms) fun q hm => hq q (hms q hm)
      exact ⟨ms.map (·.2), mv, rk, hdd, fun s us ws X l1 l2 => BindsTo.of_looks fun M' => KwChain.looks X hks (h D doc pm' an cdv ct us ws mv l1 l2 hl)⟩
  · exact absurd rfl q
/-- parameters with defaults: the defaults behind the first j fill up -/
theorem bnd_pos (F : FunD M.K x qual params body scope dvs kws f fd) (j : Nat) {dd : List D} (hd : dvs ≠ []) (hdd : ∀ w, DVs M w dd (dvs.drop j))
    (h : ∀ (T : Addr) (kV doc pm' : Value) (an : Option Addr) (cdv ct : Value) (us ws its : List Value), us.length = n → ws.length = ks.length → its.length = dvs.length →
      ∃ k, bindArgs (PySem.W.fnOf x qual params body scope (.ref T) kV doc pm' an cdv ct) ⟨us, ks.zip ws⟩ = seqItems? (.ref T) >>= k ∧ k (some its.toArray) = pure (ps.zip (permL pm (us ++ ws ++ its.drop j)))) : Bnd M fd ps n ks pm dd := by
  obtain ⟨oc, od, dV, kV, doc, pm', an, cdv, ct, osl, rfl, lk, hcd, hD, hK⟩ := F.ex
  rcases hD with ⟨e, _⟩ | ⟨_, T, o, its, m, rfl, lT, oT, rT⟩
  · exact absurd e hd
  · refine ⟨dvs.drop j, its.drop j, rT.drop j, hdd, fun s us ws X l1 l2 => BindsTo.of_looks fun M' => ?_⟩
    obtain ⟨k, e1, e2⟩ := h T kV doc pm' an cdv ct us ws its l1 l2 rT.length.symm
    rw [e1]
    exact looks_items X lT oT (.of_pure e2)
end
section
variable {K : PySem.W.Frag} {x qual : Str} {st : Stmt} {f D T : Addr} {oc : Value} {od an od' : Option Addr} {osl sl : Array (Option Value)} {kV doc pm cdv ct : Value} {kws : List (Str × V)} {dvs : List V} {its : Array Value} {n : Nat}
theorem funD_mkK (l : K.lookup f = some ⟨oc, od, .func (PySem.W.fnOf x qual (defArgs st) (defBody st) (defScope st) .none (.ref D) doc pm an cdv ct), osl⟩)
    (c : PySem.W.codeIn K cdv qual = true) (k : PySem.W.keepIn K (.ref f) = true) (hk : ∀ q ∈ kws, ∃ u, PySem.W.nsIn K D q.1 = some (some u) ∧ RelV q.2 u) : FunD K x qual (defArgs st) (defBody st) (defScope st) [] kws f (PySem.W.fnOf x qual (defArgs st) (defBody st) (defScope st) .none (.ref D) doc pm an cdv ct) :=
  ⟨⟨oc, od, .none, .ref D, doc, pm, an, cdv, ct, osl, rfl, l, c, .inl ⟨rfl, rfl⟩, .inr ⟨D, rfl, hk⟩⟩, k⟩
theorem funD_mkP (l : K.lookup f = some ⟨oc, od, .func (PySem.W.fnOf x qual (defArgs st) (defBody st) (defScope st) (.ref T) kV doc pm an cdv ct), osl⟩)
    (c : PySem.W.codeIn K cdv qual = true) (k : PySem.W.keepIn K (.ref f) = true) (lT : K.lookup T = some ⟨.type "tuple", od', .seq its n, sl⟩) (hd : dvs ≠ []) (hv : Vals dvs its.toList) : FunD K x qual (defArgs st) (defBody st) (defScope st) dvs [] f (PySem.W.fnOf x qual (defArgs st) (defBody st) (defScope st) (.ref T) kV doc pm an cdv ct) :=
  ⟨⟨oc, od, .ref T, kV, doc, pm, an, cdv, ct, osl, rfl, l, c, .inr ⟨hd, T, _, its.toList, n, rfl, lT, by simp, hv⟩, .inl rfl⟩, k⟩
end
/-! ### how these meanings reckon -/
section
variable {env : Env'} {g : Gh} {a b c e : ME} {l l' : ML} {s : MS} {i j : Nat} {xs ys : List D}
@[simp] theorem eIsi_ap {f : D → Option Bool} : eIsi f a env g = (a env g).bind fun x g1 => match f (deref g1 x) with
  | some b => .ok (.bl b) g1
  | none => .bad := rfl
@[simp] theorem eCount_ap : eCount a b env g = (a env g).bind fun x g1 => match deref g1 x with
  | .lst _ => (b env g1).bind fun y g2 => match deref g2 x with
    | .lst xs => guardR (okDs xs 63 && okD y 64) (.int (xs.countP fun z => eqD z y)) g2
    | _ => .bad
  | _ => .bad := rfl
@[simp] theorem eRev_ap : eRev a env g = (a env g).bind fun x g1 => match deref g1 x with
  | .lst xs => .ok (.lst xs.reverse) g1
  | _ => .bad := rfl
@[simp] theorem sOwnSet_ap : sOwnSet i a b env g = (a env g).bindS fun d g1 => match env[i]? with
  | some (.own _) => (b env g1).bindS fun y g2 => match env[i]?, y with
    | some (.own xs), .int z => match ixN xs.length z with
      | some j => .nx (env.set i (.own (xs.set j d))) g2
      | none => .bad
    | _, _ => .bad
  | _ => .bad := rfl
@[simp] theorem sPickApp_ap : sPickApp i j c e env g = match env[i]?, env[j]? with
  | some (.own _), some (.own _) => (c env g).bindS fun z g1 => match z with
    | .int 0 => sOwnApp i e env g1
    | .int 1 => sOwnApp j e env g1
    | _ => .bad
  | _, _ => .bad := rfl
@[simp] theorem sParOwn2_ap : sParOwn2 i j l l' env g = (l env g).bindS fun xs g1 => (l' env g1).bindS fun ys g2 => if i < env.length ∧ j < env.length then .nx ((env.set i (.own xs)).set j (.own ys)) g2 else .bad := rfl
end
end GL
/-! GL part 36: `is` with True and False; `x or y` by truth. -/
namespace GL
open PySem L2 PyProof.Rows
def isopB : CmpOp → D → D → Gh → R D
  | .Is, .bl a, .bl b, g => .ok (.bl (decide (a = b))) g
  | .IsNot, .bl a, .bl b, g => .ok (.bl (!decide (a = b))) g
  | _, _, _, _ => .bad
def eIsB (op : CmpOp) (a b : ME) : ME := fun env g => (a env g).bind fun x g1 => (b env g1).bind fun y g2 => isopB op x y g2
def truD : D → Option Bool
  | .non => some false
  | .bl b => some b
  | .tup xs => some (!xs.isEmpty)
  | _ => none
def eOrV (a b : ME) : ME := fun env g => (a env g).bind fun x g1 => match truD x with
  | some true => .ok x g1
  | some false => b env g1
  | none => .bad
section
variable {M : Im} {W : XW} {X : Cx} {k : Nat} {a b : Expr} {ma mb : ME} {pos : Pos} {rest : List Expr}
theorem isopB_ok (g : GX M k X) (op : CmpOp) : OpOk M W X (compareOp op) (isopB op) := by
  have never : ∀ f : Value → Value → Sem Value, OpR X f (fun _ _ _ _ => False) := fun f _ _ _ _ _ _ _ _ _ _ _ _ h => h.elim
  cases op with
  | Is =>
    refine ⟨_, op_is_bl, fun w fr env G σ H Q x y vx vy r hx hy h => ?_⟩
    cases x <;> cases y <;> try exact h.elim
    cases hx; cases hy
    exact ⟨_, _, rfl, rfl, Post.here h r _ (.bl _)⟩
  | IsNot =>
    refine ⟨_, op_isnot_bl, fun w fr env G σ H Q x y vx vy r hx hy h => ?_⟩
    cases x <;> cases y <;> try exact h.elim
    cases hx; cases hy
    exact ⟨_, _, rfl, rfl, Post.here h r _ (.bl _)⟩
  | _ => exact ⟨_, never _, fun w fr env G σ H Q x y vx vy r hx hy h => by unfold isopB at h; exact h⟩
theorem se_isB (g : GX M k X) {op : CmpOp} (ha : SE M W X a ma) (hb : SE M W X b mb) (hm : behindInMarks op b = false) : SE M W X (.Compare a [op] [b] pos) (eIsB op ma mb) := by
  obtain ⟨r, o1, o2⟩ := isopB_ok (W := W) g op
  obtain ⟨ta, a1, a2⟩ := ha
  obtain ⟨tb, b1, b2⟩ := hb
  refine ⟨_, pe_cmpR o1 a1 b1 hm, fun w fr env G σ H Q rs h => ?_⟩
  refine a2 w fr env G σ H _ rs ((Post.bind h).imp fun x w1 G1 H1 l1 r1 h1 vx dx => ?_)
  refine b2 w1 fr env G1 σ H1 _ r1 ((Post.bind h1).imp fun y w2 G2 H2 l2 r2 h2 vy dy => ?_)
  exact o2 w2 fr env G2 σ H2 Q x y vx vy r2 (dx.up l2) dy h2
theorem st_isB (g : GX M k X) {op : CmpOp} (ha : SE M W X a ma) (hb : SE M W X b mb) (hm : behindInMarks op b = false) : ST M W X (.Compare a [op] [b] pos) (tV (eIsB op ma mb)) := by
  obtain ⟨r, o1, o2⟩ := isopB_ok (W := W) g op
  obtain ⟨ta, a1, a2⟩ := ha
  obtain ⟨tb, b1, b2⟩ := hb
  refine ⟨_, pt_cmpR o1 a1 b1 hm, fun w fr env G σ H Q rs h => ?_⟩
  have h := Post.bind h
  have h := Post.bind h
  refine a2 w fr env G σ H _ rs (h.imp fun x w1 G1 H1 l1 r1 h1 vx dx => ?_)
  refine b2 w1 fr env G1 σ H1 _ r1 ((Post.bind h1).imp fun y w2 G2 H2 l2 r2 h2 vy dy => ?_)
  refine o2 w2 fr env G2 σ H2 _ x y vx vy r2 (dx.up l2) dy (h2.imp fun z w3 G3 H3 l3 r3 h3 vz dz => ?_)
  obtain ⟨b, e, h4⟩ := asB_post h3 dz
  exact ⟨b, e, Post.here h4 r3⟩
theorem se_orV (g : GX M k X) (ha : SE M W X a ma) (hb : SE M W X (.BoolOp .Or (b :: rest) pos) mb) : SE M W X (.BoolOp .Or (a :: b :: rest) pos) (eOrV ma mb) := by
  obtain ⟨ta, a1, a2⟩ := ha
  obtain ⟨tb, b1, b2⟩ := hb
  refine ⟨_, pe_orT a1 b1, fun w fr env G σ H Q rs h => ?_⟩
  refine a2 w fr env G σ H _ rs ((Post.bind h).imp fun x w1 G1 H1 l1 r1 h1 vx dx => ?_)
  cases dx <;> try exact h1.elim
  · exact ⟨false, rfl, b2 w1 fr env G1 σ H1 Q r1 h1⟩
  · rename_i c
    refine ⟨c, rfl, ?_⟩
    cases c with
    | true => exact Post.here h1 r1 _ (.bl _)
    | false => exact b2 w1 fr env G1 σ H1 Q r1 h1
  · rename_i xs vs p hs hd
    have ht := SqT.mono r1.cold hs
    rw [← g.K] at ht
    refine ⟨!vs.isEmpty, .inr (.inl ⟨vs, ht, rfl⟩), ?_⟩
    cases hd with
    | nil => exact b2 w1 fr env G1 σ H1 Q r1 h1
    | cons p q => exact Post.here h1 r1 _ (.tup hs (.cons p q))
end
section
variable {c : Cn} {W : XW} {N : List Str} {sc : Scope} {fnf : Str → Bool} {X : Cx} {a b : Expr} {ma mb : ME} {pos : Pos} {rest : List Expr}
theorem w_isB (o : OkX c N sc fnf X) {op : CmpOp} (ha : SE c.M W X a ma) (hb : SE c.M W X b mb) (hm : behindInMarks op b = false) : SE c.M W X (.Compare a [op] [b] pos) (eIsB op ma mb) := se_isB o.g ha hb hm
theorem w_tisB (o : OkX c N sc fnf X) {op : CmpOp} (ha : SE c.M W X a ma) (hb : SE c.M W X b mb) (hm : behindInMarks op b = false) : ST c.M W X (.Compare a [op] [b] pos) (tV (eIsB op ma mb)) := st_isB o.g ha hb hm
theorem w_orV (o : OkX c N sc fnf X) (ha : SE c.M W X a ma) (hb : SE c.M W X (.BoolOp .Or (b :: rest) pos) mb) : SE c.M W X (.BoolOp .Or (a :: b :: rest) pos) (eOrV ma mb) := se_orV o.g ha hb
end
@[simp] theorem eIsB_ap {op : CmpOp} {a b : ME} {env : Env'} {g : Gh} : eIsB op a b env g = (a env g).bind fun x g1 => (b env g1).bind fun y g2 => isopB op x y g2 := rfl
@[simp] theorem eOrV_ap {a b : ME} {env : Env'} {g : Gh} : eOrV a b env g = (a env g).bind fun x g1 => match truD x with | some true => .ok x g1 | some false => b env g1 | none => .bad := rfl
end GL
/-! GL part 66: set comprehensions whose members are whole numbers or texts. -/
namespace GL
open PySem PySem.Spec PyProof.Rows L2 PpSet
section
variable {X : Cx}
/-- the set that grows at D -/
abbrev SeK (X : Cx) (D : Addr) (S : Key → Bool) (n : Nat) : HO := SetK X.prog X.w D S n
/-- {elt for target in iter if ..}, its members keys -/
def tScK (X : Cx) (wi : TI) (g : TG) (tt : TT) (te : TE) (vs : List Nat) : TE := fun σ H Q => wi σ H fun J H1 => ∀ D, H1 D = none →
  ∃ W : Nat → Nat → Hp → Prop, (∃ m, W 0 m (upd H1 D (SeK X D (fun _ => false) 0))) ∧ ∀ i m H, W i m H → (J.stop i H ∧ Q (.ref D) H) ∨
    (J.go i H ∧ ∃ Nx : Hp → Prop, (∀ H', Nx H' → ∃ m', m' < m ∧ W (i + 1) m' H') ∧ ∀ x H', J.yld i H x H' →
      g x (wipe σ vs) H' fun σ2 H2 => wipe σ2 vs = wipe σ vs ∧ tt σ2 H2 fun b H3 => if b = true then te σ2 H3 fun y H4 =>
        ∃ (c : Key) (S : Key → Bool) (n : Nat), y = kV c ∧ H4 D = some (SeK X D S n) ∧ n + 1 < scanBound ∧ Nx (upd H4 D (SeK X D (fun j => S j || decide (j = c)) (if S c = true then n else n + 1))) else Nx H3)
theorem fresh_setK {h : Heap} (P : Program) (w : World) : (h.push { cls := .type "set", dict := none, data := .set #[] 0 (.fresh 0 0 (!w.params.followText "set-order")) }).SetOf (mixKind P w) h.objs.size (fun _ => false) 0 :=
  ⟨_, #[], 0, _, Heap.get?_push_size _ rfl, ⟨rfl, rfl, rfl⟩, rfl, (fun e he => by simp at he), (fun k => by simp), (by decide), (by rfl), rfl⟩
theorem pe_scK {elt tg iter : Expr} {ifs : List Expr} {scope : Scope} {own : List (PySem.Str × Nat)} {pos : Pos} {wi : TI} {g : TG} {tt : TT} {te : TE} (hc : X.calm = true) (hN : X.N.Nodup) (hi : PI X tg iter wi) (ok : BlkOk X.N X.env.scope scope own)
    (hg : ∀ s H C cl fp, PG (X.blk s H scope (compEnvC scope cl C X.env) fp) tg g)
    (ht : ∀ s H C cl fp, PTs (X.blk s H scope (compEnvC scope cl C X.env) fp) ifs tt)
    (he : ∀ s H C cl fp, PE (X.blk s H scope (compEnvC scope cl C X.env) fp) elt te)
    (hs : ∀ x, foldedSetIterable iter X.env x = pure x) : PE X (.SetComp elt [⟨tg, iter, ifs, 0⟩] scope pos) (tScK X wi g tt te (own.map (·.2))) := by
  refine ⟨fun pins s σ H Q I h => ?_⟩
  rw [PpSet.eval_SetComp]
  have closed : ∀ y ∈ scope.names, y.2 = .free → ∃ c, X.env.cells.lookup y.1 = some c := fun y hy e => (ok.free y hy e).elim (fun z => I.ok.has _ (.inl z)) (fun z => I.ok.has _ (.inr z))
  refine wpAny_comprehension_free rfl hs (closure_ok closed) ok.kind (fun y hy e => by rw [ok.uniq y hy, e]) (thn (hi.run pins s σ H _ I h) fun xv s1 hx => thn hx fun itv s2 h2 => ?_)
  obtain ⟨it, fp, tn, J, H2, rfl, I2, T, st2, f2, q⟩ := h2
  refine PpSet.newSet_ok (newEnv_comp ?_)
  obtain ⟨D, hD⟩ : ∃ D, s2.heap.objs.size = D := ⟨_, rfl⟩
  obtain ⟨W, ⟨m0, w0⟩, turn⟩ := q D (I2.hok.fresh (Nat.le_of_eq hD))
  obtain ⟨s3, e3⟩ : ∃ s3 : Shared, ({ s2 with heap := s2.heap.push { cls := .type "set", dict := none, data := .set #[] 0 (.fresh 0 0 (!X.w.params.followText "set-order")) } } : Shared) = s3 := ⟨_, rfl⟩
  rw [hD, e3]
  have kp : ∀ (b : Addr) o, s2.heap.get? b = some o → s3.heap.get? b = some o := fun b o e => by rw [← e3]; exact Heap.get?_push_of_some _ e
  have I3 : L2.Inv X pins σ (upd H2 D (SeK X D (fun _ => false) 0)) s3 := by
    subst e3
    exact I2.laid (t' := s2.toks) (fun b o e => Heap.get?_push_of_some _ e) (Nat.le_of_eq hD) (by rw [← hD]; exact setK_new (fresh_setK _ _))
  have f3 : ∀ b ∈ fp, FpOk X pins (upd H2 D (SeK X D (fun _ => false) 0)) b ∧ b < s3.heap.objs.size := fun b hb => by
    obtain ⟨o, e, _⟩ := T.obj _ _ st2 b hb
    have hlt := Heap.lt_size e
    refine ⟨⟨by rw [upd_ne (by rw [← hD]; exact Nat.ne_of_lt hlt)]; exact (f2 b hb).1, (f2 b hb).2⟩, Heap.lt_size (kp b o e)⟩
  have I4 := block_start I3 ok hN f3
  obtain ⟨H3, eH⟩ : ∃ H3, upd H2 D (SeK X D (fun _ => false) 0) = H3 := ⟨_, rfl⟩
  rw [eH] at I3 I4 f3 w0
  obtain ⟨cl, ecl⟩ : ∃ cl, cellsFrom (s3.heap.objs.size + 1) scope.names (cloFrom X.env.cells scope.names []) = cl := ⟨_, rfl⟩
  obtain ⟨ce, ece⟩ : ∃ ce, compEnvC scope cl s3.heap.objs.size X.env = ce := ⟨_, rfl⟩
  have pg := hg s3 H3 s3.heap.objs.size cl fp
  have pt := ht s3 H3 s3.heap.objs.size cl fp
  have pe := he s3 H3 s3.heap.objs.size cl fp
  rw [ece] at pg pt pe
  rw [ecl, ece] at I4
  obtain ⟨s4, e4⟩ : ∃ s4 : Shared, ({ s3 with heap := pushCells (s3.heap.push { cls := .type "dict", data := .dict #[] }) scope.names } : Shared) = s4 := ⟨_, rfl⟩
  rw [e4] at I4
  have st4 : tn 0 s4.heap := T.keep _ _ _ st2 fun b _ o e => by rw [← e4]; exact pushCells_keeps _ _ _ _ (Heap.get?_push_of_some _ (kp b o e))
  have loc4 : ce.locals = s3.heap.objs.size := by rw [← ece]; rfl
  let Y := X.blk s3 H3 scope ce fp
  have open' : ∀ {σ' : L2.St} {H' : Hp} {s' : Shared}, L2.Inv Y [] σ' H' s' → (∀ b ∈ fp, H' b = none) → ∀ b ∈ fp, FpOk Y [] H' b := fun {σ' H' s'} I' hn b hb =>
    ⟨hn b hb, (I'.ok.exf b hb).1, I'.ok.exfs b hb, .inl hb, fun x c e => (I'.ok.exf b hb).2 x c e, fun p hp => nomatch hp⟩
  let Out := compPost (model X.prog X.w) X.A X.xe none (EP X pins σ Q) (.ref D) s3.heap.objs.size
  have loop : codeAny (model X.prog X.w) X.A (.compLoop (.SetComp elt [⟨tg, iter, ifs, 0⟩] scope pos) 0 (.ref it) (.ref D) ce) Out s4 := by
    refine PpSet.compLoopS_any (fun n z => ∃ i Hz, L2.Inv Y [] (wipe σ (own.map (·.2))) Hz z ∧ tn i z.heap ∧ (∀ b ∈ fp, Hz b = none) ∧ W i n Hz) ?_ m0 ⟨0, H3, I4, st4, fun b hb => (f3 b hb).1.1, w0⟩
    rintro n s5 ⟨i, H5, I5, st5, n5, w5⟩
    rcases turn i n H5 w5 with ⟨stop, fin⟩ | ⟨go, Nx, next, step⟩
    · refine thnF (T.done Y rfl rfl rfl hc i [] s5 _ H5 (fun _ _ => False) I5 (open' I5 n5) st5 stop) fun r s6 ⟨hr, I6⟩ => ?_
      subst hr
      obtain ⟨m, ns, _⟩ := I6.loc
      have ns : s6.heap.Ns ce.locals m := ns
      have none6 : H5 ce.locals = none := I6.free
      rw [loc4] at ns none6
      have I7 : L2.Inv X pins σ H5 s6 := I3.call' (ch := fp) I6.os I6.base I6.hok I6.bare fun b hb => let z := (f3 b hb).1.2; ⟨z.2.2.1, z.1, z.2.2.2.1, z.2.2.2.2⟩
      obtain ⟨c0, c1, c2, c3, c4, c5⟩ := I3.fpOk (Nat.le_refl _) none6
      exact ⟨m, ns, fun hp sb => ⟨.ref D, H5, I7.turned (t' := s6.toks) (fun b o hb e => (sb.2 b hb).trans e) c0 c1 c3 c4 c5, rfl, fin⟩⟩
    · refine thnF (T.item Y rfl rfl rfl hc i [] s5 _ H5 (fun _ _ => False) I5 (open' I5 n5) st5 go) fun r s6 ⟨u, hr, h6⟩ => ?_
      subst hr
      refine thnF h6 fun _ s7 ⟨x, H7, I7, r7, y7, st7, n7⟩ => ?_
      refine thnF (pg.run _ s7 _ H7 x u _ (I7.pinned (open' I7 n7) (T.obj _ _ st7)) r7 (step x H7 y7)) fun _ s8 ⟨σ8, H8, I8, same, q8⟩ => ?_
      refine thnF (pt.run _ s8 σ8 H8 _ I8 q8) fun b s9 ⟨H9, I9, q9⟩ => ?_
      have back : ∀ {z : Shared} {Hz : Hp}, L2.Inv Y ([] ++ pinsAt fp s7.heap) σ8 Hz z → Nx Hz → ∃ m, m < n ∧ ∃ i Hw, L2.Inv Y [] (wipe σ (own.map (·.2))) Hw z ∧ tn i z.heap ∧ (∀ b ∈ fp, Hw b = none) ∧ W i m Hw := fun {z Hz} Iz nx => by
        obtain ⟨m', less, w'⟩ := next Hz nx
        have stays : ∀ b ∈ fp, ∀ o, s7.heap.get? b = some o → z.heap.get? b = some o ∧ Hz b = none := fun b hb o e => by
          have := Iz.pin (b, o) (List.mem_append_right _ (List.mem_append_right _ (mem_pinsAt hb e)))
          exact ⟨this.1, this.2.1⟩
        refine ⟨m', less, i + 1, Hz, (Iz.unpinned (pins := [])).weak (by rw [← same, wipe_length]) (fun j v e => by rw [← same] at e; exact (wipe_some e).1), T.keep _ _ _ st7 fun b hb o e => (stays b hb o e).1, fun b hb => ?_, w'⟩
        obtain ⟨o, e, _⟩ := T.obj _ _ st7 b hb
        exact (stays b hb o e).2
      cases b with
      | false => exact back I9 (by simpa using q9)
      | true =>
        have q9 := q9
        rw [if_pos rfl] at q9
        show wpAny _ _ _ _ _ _
        refine thnF (pe.run _ s9 σ8 H9 _ I9 q9) fun v s10 ⟨yv, H10, I10, r10, c, S0, n0, ey, hD10, room, nx⟩ => ?_
        subst ey
        refine thnF (mt_saddK (X := Y) _ s10 σ8 H10 (.ref D) [kV c] (.ref D) [v] (fun _ H' => Nx H') I10 rfl (.cons r10 .nil) ⟨D, c, S0, n0, rfl, rfl, hD10, room, nx⟩) fun _ s11 ⟨_, H11, I11, _, nx'⟩ => ?_
        exact back I11 nx'
  have := PpSet.codeAny_compStart_set loop (T.self X.A 0 _ _ _ st4 loop)
  rw [← e4] at this
  rw [← ece, ← ecl] at this
  exact this
end
end GL
/-! GL part 67: dicts by whole numbers and texts, as mutable objects. -/
namespace GL
open PySem L2 PyProof.Rows
def keyD : D → Option Key
  | .int i => some (.inl i)
  | .str x => some (.inr x)
  | _ => none
def valD (kvs : List (Key × D)) (k : Key) : Option D := (kvs.find? fun kv => decide (kv.1 = k)).map (·.2)
def putKD (kvs : List (Key × D)) (k : Key) (v : D) : List (Key × D) := if (kvs.any fun kv => decide (kv.1 = k)) = true then kvs.map (fun kv => if kv.1 = k then (kv.1, v) else kv) else kvs ++ [(k, v)]
section
variable {M : Im} {w : Wd}
theorem keyD_DV {d : D} {v : V} {k : Key} (h : DV M w d v) (e : keyD d = some k) : v = kV k := by
  cases h <;> simp only [keyD] at e <;> cases e <;> rfl
theorem KVr.length : ∀ {kvs : List (Key × D)} {vs : List (Key × V)}, KVr M w kvs vs → kvs.length = vs.length
  | _, _, .nil => rfl
  | _, _, .cons _ b => congrArg Nat.succ (KVr.length b)
theorem KVr.val {k : Key} : ∀ {kvs : List (Key × D)} {vs : List (Key × V)}, KVr M w kvs vs → (valD kvs k = none → valV vs k = none) ∧ ∀ d, valD kvs k = some d → ∃ v, valV vs k = some v ∧ DV M w d v
  | _, _, .nil => ⟨fun _ => rfl, fun d h => by simp [valD] at h⟩
  | _, _, .cons (k := k') (d := d') (v := v') (ds := ds') a b => by
    have ih := KVr.val (k := k) b
    by_cases q : k' = k
    · subst q
      refine ⟨fun h => by simp [valD] at h, fun d h => ?_⟩
      simp [valD] at h
      subst h
      exact ⟨v', by simp [valV], a⟩
    · refine ⟨fun h => ?_, fun d h => ?_⟩
      · have : valD ds' k = none := by simpa [valD, List.find?_cons, q] using h
        simpa [valV, List.find?_cons, q] using ih.1 this
      · have : valD ds' k = some d := by simpa [valD, List.find?_cons, q] using h
        obtain ⟨v, h1, h2⟩ := ih.2 d this
        exact ⟨v, by simpa [valV, List.find?_cons, q] using h1, h2⟩
theorem KVr.any {k : Key} : ∀ {kvs : List (Key × D)} {vs : List (Key × V)}, KVr M w kvs vs → (kvs.any fun kv => decide (kv.1 = k)) = vs.any fun kv => decide (kv.1 = k)
  | _, _, .nil => rfl
  | _, _, .cons _ b => by simp only [List.any_cons, KVr.any b]
theorem KVr.map {k : Key} {d : D} {v : V} (h : DV M w d v) : ∀ {kvs : List (Key × D)} {vs : List (Key × V)}, KVr M w kvs vs → KVr M w (kvs.map fun kv => if kv.1 = k then (kv.1, d) else kv) (vs.map fun kv => if kv.1 = k then (kv.1, v) else kv)
  | _, _, .nil => .nil
  | _, _, .cons (k := k') a b => by
    simp only [List.map_cons]
    by_cases q : k' = k
    · simp only [q, if_true]; exact .cons h (KVr.map h b)
    · simp only [q, if_false]; exact .cons a (KVr.map h b)
theorem KVr.snoc {k : Key} {d : D} {v : V} (h : DV M w d v) : ∀ {kvs : List (Key × D)} {vs : List (Key × V)}, KVr M w kvs vs → KVr M w (kvs ++ [(k, d)]) (vs ++ [(k, v)])
  | _, _, .nil => .cons h .nil
  | _, _, .cons a b => .cons a (KVr.snoc h b)
theorem KVr.put {k : Key} {d : D} {v : V} (h : DV M w d v) {kvs : List (Key × D)} {vs : List (Key × V)} (r : KVr M w kvs vs) : KVr M w (putKD kvs k d) (putK vs k v) := by
  unfold putKD putK
  rw [r.any]
  split
  · exact r.map h
  · exact r.snoc h
theorem RS.dct {fr : List (Addr × HO)} {env : Env'} {G : Gh} {σ : L2.St} {H : Hp} {n : Nat} {a : Addr} {kvs : List (Key × D)} (r : RS M w fr env G σ H) (hn : w.ρ[n]? = some a) (hg : G[n]? = some (.dct kvs)) : ∃ vs, H a = some (.dK vs) ∧ KVr M w kvs vs := by
  obtain ⟨b, ho, e1, e2, e3⟩ := r.obj hg
  rw [hn] at e1; cases e1
  cases e3 with
  | dct q => exact ⟨_, e2, q⟩
end
/-! ### meanings -/
def eDict0 : ME := fun _ g => .ok (.loc g.length) (g ++ [.dct []])
/-- f of the dict at x -/
def atDct {α : Type} (f : List (Key × D) → Gh → R α) : D → Gh → R α
  | .loc n, g => match g[n]? with
    | some (.dct kvs) => f kvs g
    | _ => .bad
  | _, _ => .bad
def onKey {α : Type} (f : Key → R α) (d : D) : R α := match keyD d with
  | some k => f k
  | none => .bad
def eDGet (a b : ME) : ME := fun env g => (a env g).bind fun x g1 => (b env g1).bind fun y g2 => atDct (fun kvs g3 => onKey (fun k => match valD kvs k with
  | some d => .ok d g3
  | none => .bad) y) x g2
def eDIn (neg : Bool) (b a : ME) : ME := fun env g => (b env g).bind fun y g1 => (a env g1).bind fun x g2 => atDct (fun kvs g3 => onKey (fun k => .ok (.bl (if neg then !(valD kvs k).isSome else (valD kvs k).isSome)) g3) y) x g2
def isDct (x : D) (g : Gh) : Bool := match x with
  | .loc n => match g[n]? with
    | some (.dct _) => true
    | _ => false
  | _ => false
def eDGet2 (a b c : ME) : ME := fun env g => (a env g).bind fun x g1 => if isDct x g1 then (b env g1).bind fun y g2 => (c env g2).bind fun z g3 => atDct (fun kvs g4 => onKey (fun k => .ok ((valD kvs k).getD z) g4) y) x g3 else .bad
def setdD (x y z : D) (g : Gh) : R D := match x, keyD y with
  | .loc n, some k => match g[n]? with
    | some (.dct kvs) => if kvs.length < LIM then (match valD kvs k with
        | some d => .ok d g
        | none => .ok z (g.set n (.dct (putKD kvs k z)))) else .bad
    | _ => .bad
  | _, _ => .bad
def eDSetd (a b c : ME) : ME := fun env g => (a env g).bind fun x g1 => if isDct x g1 then (b env g1).bind fun y g2 => (c env g2).bind fun z g3 => setdD x y z g3 else .bad
section
variable {M : Im} {W : XW} {X : Cx} {k : Nat} {a b c : Expr} {ma mb mc : ME} {pos apos cpos : Pos}
theorem se_dict0 : SE M W X (.Dict [] [] pos) eDict0 := by
  refine ⟨_, pe_dnewK, fun w fr env G σ H Q r h p hp => ?_⟩
  obtain ⟨l, r1⟩ := r.newHot (o := .dct []) (ho := .dK []) hp (.dct .nil)
  exact h _ _ l r1 _ (.loc (by
    have : w.ρ.length = G.length := by obtain ⟨os, g, _⟩ := r; exact g.len
    rw [← this]; simp))
theorem atDct_inv {α : Type} {fr : List (Addr × HO)} {env : Env'} {σ : L2.St} {w : Wd} {P : α → Wd → Gh → Hp → Prop} {f : List (Key × D) → Gh → R α} {x : D} {v : V} {G : Gh} {H : Hp} (r : RS M w fr env G σ H) (hx : DV M w x v) (h : Post M W fr env σ w P (atDct f x G)) :
    ∃ n q kvs vs, x = .loc n ∧ v = .ref q ∧ w.ρ[n]? = some q ∧ G[n]? = some (.dct kvs) ∧ H q = some (.dK vs) ∧ KVr M w kvs vs ∧ Post M W fr env σ w P (f kvs G) := by
  cases hx <;> try exact h.elim
  rename_i n q hq
  simp only [atDct] at h
  cases e : G[n]? with
  | none => rw [e] at h; exact h.elim
  | some ob =>
    rw [e] at h
    cases ob with
    | lst xs => exact h.elim
    | ins c fs => exact h.elim
    | dct kvs =>
      obtain ⟨vs, h1, h2⟩ := r.dct hq e
      exact ⟨n, q, kvs, vs, rfl, rfl, hq, e, h1, h2, h⟩
theorem onKey_inv {α : Type} {fr : List (Addr × HO)} {env : Env'} {σ : L2.St} {w : Wd} {P : α → Wd → Gh → Hp → Prop} {f : Key → R α} {y : D} {v : V} (hy : DV M w y v) (h : Post M W fr env σ w P (onKey f y)) : ∃ k, v = kV k ∧ keyD y = some k ∧ Post M W fr env σ w P (f k) := by
  unfold onKey at h
  cases e : keyD y with
  | none => rw [e] at h; exact h.elim
  | some k => rw [e] at h; exact ⟨k, keyD_DV hy e, rfl, h⟩
theorem isDct_inv {fr : List (Addr × HO)} {env : Env'} {σ : L2.St} {w : Wd} {x : D} {v : V} {G : Gh} {H : Hp} (r : RS M w fr env G σ H) (hx : DV M w x v) (h : isDct x G = true) : ∃ q, v = .ref q ∧ IsD H q := by
  cases hx <;> try cases h
  rename_i n q hq
  simp only [isDct] at h
  cases e : G[n]? with
  | none => rw [e] at h; cases h
  | some ob =>
    rw [e] at h
    cases ob with
    | lst xs => cases h
    | ins c fs => cases h
    | dct kvs =>
      obtain ⟨vs, h1, h2⟩ := r.dct hq e
      exact ⟨q, rfl, .inl ⟨vs, .inl h1⟩⟩
theorem GX.u1 (g : GX M k X) : X.A.units + 1 < cLine := by have := g.u65; omega
theorem se_dget (g : GX M k X) (ha : SE M W X a ma) (hb : SE M W X b mb) (hs : NoSl b) : SE M W X (.Subscript a b pos) (eDGet ma mb) := by
  obtain ⟨ta, a1, a2⟩ := ha
  obtain ⟨tb, b1, b2⟩ := hb
  refine ⟨_, pe_dget g.u1 a1 b1 hs, fun w fr env G σ H Q r h => ?_⟩
  refine a2 w fr env G σ H _ r ((Post.bind h).imp fun x w1 G1 H1 l1 r1 h1 vx dx => ?_)
  refine b2 w1 fr env G1 σ H1 _ r1 ((Post.bind h1).imp fun y w2 G2 H2 l2 r2 h2 vy dy => ?_)
  obtain ⟨n, q, kvs, vs, rfl, rfl, hq, e, h3, h4, h5⟩ := atDct_inv r2 (dx.up l2) h2
  obtain ⟨kk, rfl, _, h6⟩ := onKey_inv dy h5
  cases ev : valD kvs kk with
  | none => rw [ev] at h6; exact h6.elim
  | some d =>
    rw [ev] at h6
    obtain ⟨v, e1, e2⟩ := (h4.val (k := kk)).2 d ev
    exact ⟨q, v, rfl, .inl ⟨vs, kk, .inl h3, rfl, e1.symm⟩, Post.here h6 r2 v e2⟩
theorem val_isSome {w : Wd} {kvs : List (Key × D)} {vs : List (Key × V)} (h : KVr M w kvs vs) (kk : Key) : (valV vs kk).isSome = (valD kvs kk).isSome := by
  cases e : valD kvs kk with
  | none => rw [(h.val (k := kk)).1 e]; rfl
  | some d => obtain ⟨v, e1, _⟩ := (h.val (k := kk)).2 d e; rw [e1]; rfl
theorem din_read {neg : Bool} {ta tb : TE} (a2 : ∀ w fr env G σ H Q, RS M w fr env G σ H → Post M W fr env σ w (PE' M Q) (ma env G) → ta σ H Q) (b2 : ∀ w fr env G σ H Q, RS M w fr env G σ H → Post M W fr env σ w (PE' M Q) (mb env G) → tb σ H Q)
    {w : Wd} {fr : List (Addr × HO)} {env : Env'} {G : Gh} {σ : L2.St} {H : Hp} {Q : VK} (r : RS M w fr env G σ H) (h : Post M W fr env σ w (PE' M Q) (eDIn neg mb ma env G)) :
    tb σ H fun y H1 => ta σ H1 fun x H2 => ∃ a o, x = .ref a ∧ DGet H2 a y o ∧ Q (.bl (if neg then !o.isSome else o.isSome)) H2 := by
  refine b2 w fr env G σ H _ r ((Post.bind h).imp fun y w1 G1 H1 l1 r1 h1 vy dy => ?_)
  refine a2 w1 fr env G1 σ H1 _ r1 ((Post.bind h1).imp fun x w2 G2 H2 l2 r2 h2 vx dx => ?_)
  obtain ⟨n, q, kvs, vs, rfl, rfl, hq, e, h3, h4, h5⟩ := atDct_inv r2 dx h2
  obtain ⟨kk, rfl, _, h6⟩ := onKey_inv (dy.up l2) h5
  refine ⟨q, valV vs kk, rfl, .inl ⟨vs, kk, .inl h3, rfl, rfl⟩, ?_⟩
  rw [val_isSome h4 kk]
  exact Post.here h6 r2 _ (.bl _)
theorem se_din (g : GX M k X) (hb : SE M W X b mb) (ha : SE M W X a ma) (hm : behindInMarks .In a = false) : SE M W X (.Compare b [.In] [a] pos) (eDIn false mb ma) := by
  obtain ⟨ta, a1, a2⟩ := ha
  obtain ⟨tb, b1, b2⟩ := hb
  exact ⟨_, pe_cmp (pc_din g.u1 b1 a1) hm, fun w fr env G σ H Q r h => din_read a2 b2 r h⟩
theorem se_dnotin (g : GX M k X) (hb : SE M W X b mb) (ha : SE M W X a ma) (hm : behindInMarks .NotIn a = false) : SE M W X (.Compare b [.NotIn] [a] pos) (eDIn true mb ma) := by
  obtain ⟨ta, a1, a2⟩ := ha
  obtain ⟨tb, b1, b2⟩ := hb
  exact ⟨_, pe_cmp (pc_dnotin g.u1 b1 a1) hm, fun w fr env G σ H Q r h => din_read a2 b2 r h⟩
theorem se_dget2 (g : GX M k X) (ha : SE M W X a ma) (hb : SE M W X b mb) (hc : SE M W X c mc) (m : M2 X a "get" apos b c cpos) : SE M W X (.Call (.Attribute a "get" apos) [b, c] [] cpos) (eDGet2 ma mb mc) := by
  obtain ⟨ta, a1, a2⟩ := ha
  obtain ⟨tb, b1, b2⟩ := hb
  obtain ⟨tc, c1, c2⟩ := hc
  refine ⟨_, pe_dget2 g.u1 a1 b1 c1 m, fun w fr env G σ H Q r h => ?_⟩
  refine a2 w fr env G σ H _ r ((Post.bind h).imp fun x w1 G1 H1 l1 r1 h1 vx dx => ?_)
  by_cases hd : isDct x G1 = true
  · rw [if_pos hd] at h1
    obtain ⟨q, rfl, isd⟩ := isDct_inv r1 dx hd
    refine ⟨q, rfl, isd, b2 w1 fr env G1 σ H1 _ r1 ((Post.bind h1).imp fun y w2 G2 H2 l2 r2 h2 vy dy => ?_)⟩
    refine c2 w2 fr env G2 σ H2 _ r2 ((Post.bind h2).imp fun z w3 G3 H3 l3 r3 h3 vz dz => ?_)
    obtain ⟨n, q', kvs, vs, rfl, eq, hq, e, h4, h5, h6⟩ := atDct_inv r3 ((dx.up l2).up l3) h3
    cases eq
    obtain ⟨kk, rfl, _, h7⟩ := onKey_inv (dy.up l3) h6
    refine ⟨valV vs kk, .inl ⟨vs, kk, .inl h4, rfl, rfl⟩, ?_⟩
    cases ev : valD kvs kk with
    | none => rw [(h5.val (k := kk)).1 ev]; rw [ev] at h7; exact Post.here h7 r3 _ dz
    | some d =>
      obtain ⟨v, e1, e2⟩ := (h5.val (k := kk)).2 d ev
      rw [e1]; rw [ev] at h7; exact Post.here h7 r3 _ e2
  · rw [if_neg hd] at h1; exact h1.elim
theorem se_dsetd (g : GX M k X) (ha : SE M W X a ma) (hb : SE M W X b mb) (hc : SE M W X c mc) (m : M2 X a "setdefault" apos b c cpos) : SE M W X (.Call (.Attribute a "setdefault" apos) [b, c] [] cpos) (eDSetd ma mb mc) := by
  obtain ⟨ta, a1, a2⟩ := ha
  obtain ⟨tb, b1, b2⟩ := hb
  obtain ⟨tc, c1, c2⟩ := hc
  refine ⟨_, pe_dsetd a1 b1 c1 m, fun w fr env G σ H Q r h => ?_⟩
  refine a2 w fr env G σ H _ r ((Post.bind h).imp fun x w1 G1 H1 l1 r1 h1 vx dx => ?_)
  by_cases hd : isDct x G1 = true
  · rw [if_pos hd] at h1
    obtain ⟨q, rfl, isd⟩ := isDct_inv r1 dx hd
    refine ⟨q, rfl, isd, b2 w1 fr env G1 σ H1 _ r1 ((Post.bind h1).imp fun y w2 G2 H2 l2 r2 h2 vy dy => ?_)⟩
    refine c2 w2 fr env G2 σ H2 _ r2 ((Post.bind h2).imp fun z w3 G3 H3 l3 r3 h3 vz dz => ?_)
    have dx3 := (dx.up l2).up l3
    cases dx3 <;> try exact h3.elim
    rename_i n hq
    simp only [setdD] at h3
    cases ek : keyD y with
    | none => rw [ek] at h3; exact h3.elim
    | some kk =>
      rw [ek] at h3
      simp only at h3
      cases e : G3[n]? with
      | none => rw [e] at h3; exact h3.elim
      | some ob =>
        rw [e] at h3
        cases ob with
        | lst xs => exact h3.elim
        | ins c fs => exact h3.elim
        | dct kvs =>
          simp only at h3
          by_cases hz : kvs.length < LIM
          · rw [if_pos hz] at h3
            obtain ⟨vs, h4, h5⟩ := r3.dct hq e
            have hky := keyD_DV (dy.up l3) ek
            refine ⟨vs, kk, h4, hky, by rw [← h5.length]; exact lim_lt hz, fun v hv => ?_, fun hv => ?_⟩
            · cases ev : valD kvs kk with
              | none => rw [(h5.val (k := kk)).1 ev] at hv; cases hv
              | some d =>
                rw [ev] at h3
                obtain ⟨v', e1, e2⟩ := (h5.val (k := kk)).2 d ev
                rw [e1] at hv; cases hv
                exact Post.here h3 r3 _ e2
            · cases ev : valD kvs kk with
              | some d => obtain ⟨v', e1, e2⟩ := (h5.val (k := kk)).2 d ev; rw [e1] at hv; cases hv
              | none =>
                rw [ev] at h3
                exact h3 w3 _ (Wd.Le.refl w3) (r3.setObj hq (.dct (h5.put dz))) _ dz
          · rw [if_neg hz] at h3; exact h3.elim
  · rw [if_neg hd] at h1; exact h1.elim
end
end GL
/-! GL part 68: dict comprehensions; how many members a set comprehension has. -/
namespace GL
open PySem L2 PyProof.Rows
/-- key and value of one item -/
def ePairK (mk mv : ME) : ME := fun env g => (mk env g).bind fun x g1 => (mv env g1).bind fun y g2 => match keyD x with
  | some _ => .ok (.tup [x, y]) g2
  | none => .bad
def dctOf (acc : List (Key × D)) : List D → Option (List (Key × D))
  | [] => some acc
  | .tup [x, y] :: r => match keyD x with
    | some k => dctOf (putKD acc k y) r
    | none => none
  | _ :: _ => none
noncomputable def eDComp (it : MI) (tg : MG) (t : MT) (mk mv : ME) (vs : List Nat) : ME := fun env g => (it env g).bind fun p g1 => match compL p.2 tg t (ePairK mk mv) p.1 (blkE env vs) g1 with
  | .ok ys g2 => if ys.length ≤ LIM then (match dctOf [] ys with
      | some kvs => .ok (.loc g2.length) (g2 ++ [.dct kvs])
      | none => .bad) else .bad
  | _ => .bad
/-- whether a key is among some -/
def memB (ks : List Key) (c : Key) : Bool := ks.any fun j => decide (j = c)
theorem memB_iff {ks : List Key} {c : Key} : memB ks c = true ↔ c ∈ ks := by
  unfold memB; rw [List.any_eq_true]; simp
/-- members so far, and the keys among them -/
def keysOf (acc : List Key) : List D → Option (List Key)
  | [] => some acc
  | y :: r => match keyD y with
    | some k => keysOf (if memB acc k = true then acc else acc ++ [k]) r
    | none => none
noncomputable def eSetLen (it : MI) (tg : MG) (t : MT) (e : ME) (vs : List Nat) : ME := fun env g => (it env g).bind fun p g1 => match compL p.2 tg t e p.1 (blkE env vs) g1 with
  | .ok ys g2 => if ys.length ≤ 1000 then (match keysOf [] ys with
      | some ks => .ok (.int ks.length) g2
      | none => .bad) else .bad
  | _ => .bad
section
variable {M : Im} {W : XW} {X : Cx} {k : Nat} {elt kx vx tg iter : Expr} {ifs : List Expr} {scope : Scope} {own : List (Str × Nat)} {pos p pos2 : Pos} {wi : TI} {mi : MI} {mg : MG} {mt : MT} {me mk mv : ME} {ts : List Nat} {vs : List Nat}
theorem putKD_len (kvs : List (Key × D)) (kk : Key) (v : D) : (putKD kvs kk v).length ≤ kvs.length + 1 := by
  unfold putKD; split <;> simp
theorem dc_read (i2 : ∀ w fr env G σ H Q, RS M w fr env G σ H → Post M W fr env σ w (fun p w' G' H' => ∀ J, ItOk M w' p.2 J p.1 → gdOk p.2 G' → Q J H') (mi env G) → wi σ H Q) (hts : ∀ i ∈ ts, i ∈ vs)
    {w : Wd} {fr : List (Addr × HO)} {env : Env'} {G : Gh} {σ : L2.St} {H : Hp} {Q : VK} (r : RS M w fr env G σ H) (h : Post M W fr env σ w (PE' M Q) (eDComp mi mg mt mk mv vs env G)) :
    tDc wi (gOf M ts mg) (ttOf M W0 mt) (tOf M W0 mk) (tOf M W0 mv) vs σ H Q := by
  refine i2 w fr env G σ H _ r ((Post.bind h).imp fun p w1 G1 H1 l1 r1 h1 J jo gok => ?_)
  obtain ⟨ds, gd⟩ := p
  simp only at h1 jo gok
  cases e : compL gd mg mt (ePairK mk mv) ds (blkE env vs) G1 with
  | bad => rw [e] at h1; exact h1.elim
  | exc x g => rw [e] at h1; exact h1.elim
  | ok ys Gf =>
    rw [e] at h1
    by_cases hlen : ys.length ≤ LIM
    · simp only [hlen, if_true] at h1
      cases ed : dctOf [] ys with
      | none => rw [ed] at h1; exact h1.elim
      | some kvs =>
      rw [ed] at h1
      intro D hD
      obtain ⟨os, g1, sl⟩ := r1
      have sb : SlR M w1 [] (blkE env vs) (L2.wipe σ vs) := SlR.wipe sl.hide vs
      refine ⟨fun i m H' => ∃ w' G' accD accV ys', w1.Le w' ∧ RG M w' ((D, .dK accV) :: (os ++ fr)) G' H' ∧ KVr M w' accD accV ∧ compL gd mg mt (ePairK mk mv) (ds.drop i) (blkE env vs) G' = .ok ys' Gf ∧ dctOf accD ys' = some kvs ∧ accD.length + ys'.length ≤ LIM ∧ m = ds.length - i ∧ i ≤ ds.length,
        ⟨_, w1, G1, [], [], ys, Wd.Le.refl w1, g1.newFr hD, .nil, e, ed, by simpa using hlen, rfl, Nat.zero_le _⟩, ?_⟩
      rintro i m H' ⟨w', G', accD, accV, ys', l', g', da, e', ey, hacc, rfl, hi⟩
      have rb : RS M w' ((D, .dK accV) :: (os ++ fr)) (blkE env vs) G' (L2.wipe σ vs) H' := ⟨[], g', sb.up l'⟩
      have hgd : gdOk gd G' := compL_gd e'
      by_cases hlt : i < ds.length
      · rw [List.drop_eq_getElem_cons hlt] at e'
        unfold compL at e'
        rw [if_pos hgd] at e'
        cases e1 : mg ds[i] (blkE env vs) with
        | none => rw [e1] at e'; cases e'
        | some env1 =>
          rw [e1] at e'
          simp only at e'
          cases e2 : mt env1 G' with
          | bad => rw [e2] at e'; cases e'
          | exc x g => rw [e2] at e'; cases e'
          | ok kk g2 =>
            rw [e2] at e'
            simp only at e'
            refine .inr ⟨jo.go i w' _ _ G' _ H' l' rb hgd hlt, fun H2 => ∃ w' G' accD accV ys', w1.Le w' ∧ RG M w' ((D, .dK accV) :: (os ++ fr)) G' H2 ∧ KVr M w' accD accV ∧ compL gd mg mt (ePairK mk mv) (ds.drop (i + 1)) (blkE env vs) G' = .ok ys' Gf ∧ dctOf accD ys' = some kvs ∧ accD.length + ys'.length ≤ LIM,
              fun H2 ⟨w2, G2, a2, v2, y2, q1, q2, q3, q4, q5, q6⟩ => ⟨ds.length - (i + 1), by omega, w2, G2, a2, v2, y2, q1, q2, q3, q4, q5, q6, rfl, hlt⟩, fun x H2 hy => ?_⟩
            obtain ⟨w2, l2, r2, dv⟩ := jo.yld i w' _ _ G' _ H' x H2 ds[i] l' rb hgd (List.getElem?_eq_getElem hlt) hy
            refine ⟨w2, (D, .dK accV) :: (os ++ fr), blkE env vs, G', ds[i], r2, dv, ?_⟩
            rw [e1]
            intro w3 σ3 H3 l3 r3 ag3
            have ag : L2.wipe σ3 vs = L2.wipe σ vs := by
              rw [wipe_ag vs (ag3.mono hts)]
              exact wipe_ag vs ⟨by rw [wipe_length], fun j hj => wipe_out hj⟩
            refine ⟨ag, w3, _, env1, G', r3, ?_⟩
            rw [e2]
            intro w4 H4 l4 r4
            show if kk = true then _ else _
            cases kk with
            | false =>
              simp only [Bool.false_eq_true, if_false] at e' ⊢
              obtain ⟨oo, g4, s4⟩ := r4
              exact ⟨w4, g2, accD, accV, ys', ((l'.trans l2).trans l3).trans l4, (g4.less (List.sublist_append_right _ _)), da.up ((l2.trans l3).trans l4), e', ey, hacc⟩
            | true =>
              simp only [if_true] at e' ⊢
              cases e3 : ePairK mk mv env1 g2 with
              | bad => rw [e3] at e'; cases e'
              | exc x g => rw [e3] at e'; cases e'
              | ok y g3 =>
                rw [e3] at e'
                simp only at e'
                cases e4 : compL gd mg mt (ePairK mk mv) (ds.drop (i + 1)) (blkE env vs) g3 with
                | bad => rw [e4] at e'; cases e'
                | exc x g => rw [e4] at e'; cases e'
                | ok ys2 g4 =>
                  rw [e4] at e'
                  have q : R.ok (y :: ys2) g4 = R.ok ys' Gf := e'
                  injection q with q1 q2
                  subst q1 q2
                  unfold ePairK at e3
                  cases ek : mk env1 g2 with
                  | bad => rw [ek] at e3; cases e3
                  | exc x g => rw [ek] at e3; cases e3
                  | ok xk gk =>
                    rw [ek] at e3
                    simp only [R.bind_ok] at e3
                    cases evv : mv env1 gk with
                    | bad => rw [evv] at e3; cases e3
                    | exc x g => rw [evv] at e3; cases e3
                    | ok yv gv =>
                      rw [evv] at e3
                      simp only [R.bind_ok] at e3
                      cases ekd : keyD xk with
                      | none => rw [ekd] at e3; cases e3
                      | some key =>
                        rw [ekd] at e3
                        have q : R.ok (GL.D.tup [xk, yv]) gv = R.ok y g3 := e3
                        injection q with q1 q2
                        subst q1 q2
                        simp only [dctOf, ekd] at ey
                        refine ⟨w4, _, env1, g2, r4, ?_⟩
                        rw [ek]
                        intro w5 H5 l5 r5 vk dk
                        refine ⟨w5, _, env1, gk, r5, ?_⟩
                        rw [evv]
                        intro w6 H6 l6 r6 vz dz
                        obtain ⟨oo, g6, s6⟩ := r6
                        have g6' := g6.less (List.sublist_append_right oo ((D, HO.dK accV) :: (os ++ fr)))
                        have lall := ((((l'.trans l2).trans l3).trans l4).trans l5).trans l6
                        have lda := (((l2.trans l3).trans l4).trans l5).trans l6
                        have hl2 : accD.length + (ys2.length + 1) ≤ LIM := by simpa using hacc
                        refine ⟨accV, key, keyD_DV dk ekd, g6'.frm (D, .dK accV) List.mem_cons_self, by rw [← da.length]; exact lim_lt (by omega), ?_⟩
                        have hp := putKD_len accD key yv
                        exact ⟨w6, gv, putKD accD key yv, putK accV key vz, ys2, lall, RG.setFr (f1 := []) g6', (da.up lda).put dz, e4, ey, by omega⟩
      · have ei : i = ds.length := by omega
        subst ei
        rw [List.drop_length] at e'
        unfold compL at e'
        rw [if_pos hgd] at e'
        have q : R.ok ([] : List GL.D) G' = R.ok ys' Gf := e'
        injection q with q1 q2
        subst q1 q2
        simp only [dctOf, Option.some.injEq] at ey
        subst ey
        refine .inl ⟨jo.stop w' _ _ G' _ H' l' rb hgd, ?_⟩
        have hfr := g'.frm (D, .dK accV) List.mem_cons_self
        have ro : RS M w' fr env G' σ (outA H' D) := ⟨os, g'.out, sl.up l'⟩
        have hl : w'.ρ.length = G'.length := g'.len
        have lD : w'.Le ⟨w'.C, w'.ρ ++ [D]⟩ := ⟨fun _ _ q => q, fun n a q => by
          have hn : n < w'.ρ.length := (List.getElem?_eq_some_iff.mp q).1
          show (w'.ρ ++ [D])[n]? = some a
          rw [List.getElem?_append_left hn]; exact q⟩
        obtain ⟨l9, r9⟩ := ro.newHot (p := D) (o := .dct accD) (ho := .dK accV) outA_same (.dct (da.up lD))
        rw [outA_upd hfr] at r9
        exact h1 _ _ (l'.trans l9) r9 _ (.loc (by rw [← hl]; simp))
    · simp only [hlen, if_false] at h1; exact h1.elim
theorem se_dcomp (g : GX M k X) (hi : SI M W X tg iter mi) (ok : BlkOk X.N X.env.scope scope own)
    (hg : ∀ (s : Shared) (H : Hp) (C : Addr) (cl : List (Str × Addr)) (fp : List Addr), SG M (X.blk s H scope (compEnvC scope cl C X.env) fp) tg ts mg)
    (ht : ∀ (s : Shared) (H : Hp) (C : Addr) (cl : List (Str × Addr)) (fp : List Addr), STs M W0 (X.blk s H scope (compEnvC scope cl C X.env) fp) ifs mt)
    (hk : ∀ (s : Shared) (H : Hp) (C : Addr) (cl : List (Str × Addr)) (fp : List Addr), SE M W0 (X.blk s H scope (compEnvC scope cl C X.env) fp) kx mk)
    (he : ∀ (s : Shared) (H : Hp) (C : Addr) (cl : List (Str × Addr)) (fp : List Addr), SE M W0 (X.blk s H scope (compEnvC scope cl C X.env) fp) vx mv)
    (hts : ∀ i ∈ ts, i ∈ own.map (·.2)) (hs : ∀ x, foldedSetIterable iter X.env x = pure x) :
    SE M W X (.DictComp kx vx [⟨tg, iter, ifs, 0⟩] scope pos) (eDComp mi mg mt mk mv (own.map (·.2))) := by
  obtain ⟨wi, i1, i2⟩ := hi
  exact ⟨_, pe_dc g.calm g.nd i1 ok (fun s H C cl fp => (hg s H C cl fp).pg) ht (fun s H C cl fp => (hk s H C cl fp).pe) (fun s H C cl fp => (he s H C cl fp).pe) hs, fun w fr env G σ H Q r h => dc_read i2 hts r h⟩
/-! ### len({..}) -/
theorem call_lenSK : CallR X (.builtin "len") (fun xs H Q => ∃ a S n, xs = [.ref a] ∧ H a = some (SeK X a S n) ∧ n ≤ sizeLine ∧ Q (.int n) H) := by
  intro pins s σ H xs us Q I r h
  obtain ⟨a, S, n, rfl, ha, hz, q⟩ := h
  obtain ⟨u, rfl, rx⟩ := vals1 r
  cases rx
  obtain ⟨o, es, ep, t, ho, hex, hd, _, _, _, hf, hn⟩ := setK_get I ha
  have hl := line63
  have hs : sizeLine = 16777216 := sizeLine_eq
  exact call_len_set ho hex hd hf (by rw [hn]; omega) ⟨.int n, H, I.tok _, ⟨_, by rw [hn]⟩, q⟩
def tLenS (X : Cx) (t : TE) : TE := fun σ H Q => t σ H fun x H1 => ∃ a S n, [x] = [V.ref a] ∧ H1 a = some (SeK X a S n) ∧ n ≤ sizeLine ∧ Q (.int n) H1
/-- the truths of which keys are there -/
def memK (ks : List Key) : Key → Bool := fun j => memB ks j
theorem memK_add (ks : List Key) (c : Key) : (fun j => memK ks j || decide (j = c)) = memK (if memB ks c = true then ks else ks ++ [c]) := by
  funext j
  unfold memK
  by_cases h : memB ks c = true
  · rw [if_pos h]
    by_cases hj : j = c
    · subst hj; simp [h]
    · simp [hj]
  · rw [if_neg h, Bool.eq_iff_iff]
    simp only [Bool.or_eq_true, memB_iff, decide_eq_true_eq, List.mem_append, List.mem_cons, List.not_mem_nil, or_false]
theorem memK_len (ks : List Key) (c : Key) : (if memK ks c = true then ks.length else ks.length + 1) = (if memB ks c = true then ks else ks ++ [c]).length := by
  unfold memK
  by_cases h : memB ks c = true <;> simp [h]
theorem keysOf_len : ∀ {acc : List Key} {ys : List D} {ks : List Key}, keysOf acc ys = some ks → ks.length ≤ acc.length + ys.length
  | acc, [], ks, h => by simp [keysOf] at h; subst h; simp
  | acc, y :: r, ks, h => by
    simp only [keysOf] at h
    cases e : keyD y with
    | none => rw [e] at h; cases h
    | some c =>
      rw [e] at h
      have := keysOf_len h
      have : (if memB acc c = true then acc else acc ++ [c]).length ≤ acc.length + 1 := by split <;> simp
      simp only [List.length_cons]; omega
theorem sc_read (i2 : ∀ w fr env G σ H Q, RS M w fr env G σ H → Post M W fr env σ w (fun p w' G' H' => ∀ J, ItOk M w' p.2 J p.1 → gdOk p.2 G' → Q J H') (mi env G) → wi σ H Q) (hts : ∀ i ∈ ts, i ∈ vs)
    {w : Wd} {fr : List (Addr × HO)} {env : Env'} {G : Gh} {σ : L2.St} {H : Hp} {Q : VK} (r : RS M w fr env G σ H) (h : Post M W fr env σ w (PE' M Q) (eSetLen mi mg mt me vs env G)) :
    tLenS X (tScK X wi (gOf M ts mg) (ttOf M W0 mt) (tOf M W0 me) vs) σ H Q := by
  refine i2 w fr env G σ H _ r ((Post.bind h).imp fun p w1 G1 H1 l1 r1 h1 J jo gok => ?_)
  obtain ⟨ds, gd⟩ := p
  simp only at h1 jo gok
  cases e : compL gd mg mt me ds (blkE env vs) G1 with
  | bad => rw [e] at h1; exact h1.elim
  | exc x g => rw [e] at h1; exact h1.elim
  | ok ys Gf =>
    rw [e] at h1
    by_cases hlen : ys.length ≤ 1000
    · simp only [hlen, if_true] at h1
      cases ed : keysOf [] ys with
      | none => rw [ed] at h1; exact h1.elim
      | some ks =>
      rw [ed] at h1
      intro D hD
      obtain ⟨os, g1, sl⟩ := r1
      have sb : SlR M w1 [] (blkE env vs) (L2.wipe σ vs) := SlR.wipe sl.hide vs
      refine ⟨fun i m H' => ∃ w' G' acc ys', w1.Le w' ∧ RG M w' ((D, SeK X D (memK acc) acc.length) :: (os ++ fr)) G' H' ∧ compL gd mg mt me (ds.drop i) (blkE env vs) G' = .ok ys' Gf ∧ keysOf acc ys' = some ks ∧ acc.length + ys'.length ≤ 1000 ∧ m = ds.length - i ∧ i ≤ ds.length,
        ⟨_, w1, G1, [], ys, Wd.Le.refl w1, ?_, e, ed, by simpa using hlen, rfl, Nat.zero_le _⟩, ?_⟩
      · have : memK [] = fun _ => false := by funext j; rfl
        rw [this]; exact g1.newFr hD
      rintro i m H' ⟨w', G', acc, ys', l', g', e', ey, hacc, rfl, hi⟩
      have rb : RS M w' ((D, SeK X D (memK acc) acc.length) :: (os ++ fr)) (blkE env vs) G' (L2.wipe σ vs) H' := ⟨[], g', sb.up l'⟩
      have hgd : gdOk gd G' := compL_gd e'
      by_cases hlt : i < ds.length
      · rw [List.drop_eq_getElem_cons hlt] at e'
        unfold compL at e'
        rw [if_pos hgd] at e'
        cases e1 : mg ds[i] (blkE env vs) with
        | none => rw [e1] at e'; cases e'
        | some env1 =>
          rw [e1] at e'
          simp only at e'
          cases e2 : mt env1 G' with
          | bad => rw [e2] at e'; cases e'
          | exc x g => rw [e2] at e'; cases e'
          | ok kk g2 =>
            rw [e2] at e'
            simp only at e'
            refine .inr ⟨jo.go i w' _ _ G' _ H' l' rb hgd hlt, fun H2 => ∃ w' G' acc ys', w1.Le w' ∧ RG M w' ((D, SeK X D (memK acc) acc.length) :: (os ++ fr)) G' H2 ∧ compL gd mg mt me (ds.drop (i + 1)) (blkE env vs) G' = .ok ys' Gf ∧ keysOf acc ys' = some ks ∧ acc.length + ys'.length ≤ 1000,
              fun H2 ⟨w2, G2, a2, y2, q1, q2, q4, q5, q6⟩ => ⟨ds.length - (i + 1), by omega, w2, G2, a2, y2, q1, q2, q4, q5, q6, rfl, hlt⟩, fun x H2 hy => ?_⟩
            obtain ⟨w2, l2, r2, dv⟩ := jo.yld i w' _ _ G' _ H' x H2 ds[i] l' rb hgd (List.getElem?_eq_getElem hlt) hy
            refine ⟨w2, (D, SeK X D (memK acc) acc.length) :: (os ++ fr), blkE env vs, G', ds[i], r2, dv, ?_⟩
            rw [e1]
            intro w3 σ3 H3 l3 r3 ag3
            have ag : L2.wipe σ3 vs = L2.wipe σ vs := by
              rw [wipe_ag vs (ag3.mono hts)]
              exact wipe_ag vs ⟨by rw [wipe_length], fun j hj => wipe_out hj⟩
            refine ⟨ag, w3, _, env1, G', r3, ?_⟩
            rw [e2]
            intro w4 H4 l4 r4
            show if kk = true then _ else _
            cases kk with
            | false =>
              simp only [Bool.false_eq_true, if_false] at e' ⊢
              obtain ⟨oo, g4, s4⟩ := r4
              exact ⟨w4, g2, acc, ys', ((l'.trans l2).trans l3).trans l4, (g4.less (List.sublist_append_right _ _)), e', ey, hacc⟩
            | true =>
              simp only [if_true] at e' ⊢
              cases e3 : me env1 g2 with
              | bad => rw [e3] at e'; cases e'
              | exc x g => rw [e3] at e'; cases e'
              | ok y g3 =>
                rw [e3] at e'
                simp only at e'
                cases e4 : compL gd mg mt me (ds.drop (i + 1)) (blkE env vs) g3 with
                | bad => rw [e4] at e'; cases e'
                | exc x g => rw [e4] at e'; cases e'
                | ok ys2 g4 =>
                  rw [e4] at e'
                  have q : R.ok (y :: ys2) g4 = R.ok ys' Gf := e'
                  injection q with q1 q2
                  subst q1 q2
                  simp only [keysOf] at ey
                  cases ekd : keyD y with
                  | none => rw [ekd] at ey; cases ey
                  | some key =>
                    rw [ekd] at ey
                    refine ⟨w4, _, env1, g2, r4, ?_⟩
                    rw [e3]
                    intro w5 H5 l5 r5 vy dy
                    obtain ⟨oo, g5, s5⟩ := r5
                    have g5' := g5.less (List.sublist_append_right oo ((D, SeK X D (memK acc) acc.length) :: (os ++ fr)))
                    have hl2 : acc.length + (ys2.length + 1) ≤ 1000 := by simpa using hacc
                    refine ⟨key, memK acc, acc.length, keyD_DV dy ekd, g5'.frm (D, SeK X D (memK acc) acc.length) List.mem_cons_self, Nat.lt_of_le_of_lt (by omega : acc.length + 1 ≤ 1000) (by decide), ?_⟩
                    have g6 := RG.setFr (f1 := []) (o' := SeK X D (memK (if memB acc key = true then acc else acc ++ [key])) (if memB acc key = true then acc else acc ++ [key]).length) g5'
                    rw [memK_add, memK_len]
                    refine ⟨w5, g3, if memB acc key = true then acc else acc ++ [key], ys2, (((l'.trans l2).trans l3).trans l4).trans l5, g6, e4, ey, ?_⟩
                    have : (if memB acc key = true then acc else acc ++ [key]).length ≤ acc.length + 1 := by split <;> simp
                    omega
      · have ei : i = ds.length := by omega
        subst ei
        rw [List.drop_length] at e'
        unfold compL at e'
        rw [if_pos hgd] at e'
        have q : R.ok ([] : List GL.D) G' = R.ok ys' Gf := e'
        injection q with q1 q2
        subst q1 q2
        simp only [keysOf, Option.some.injEq] at ey
        subst ey
        refine .inl ⟨jo.stop w' _ _ G' _ H' l' rb hgd, D, _, _, rfl, g'.frm (D, SeK X D (memK acc) acc.length) List.mem_cons_self, Nat.le_trans (by omega : _ ≤ 1000) (by decide), ?_⟩
        have ro : RS M w' fr env G' σ H' := ⟨os, g'.less (List.sublist_cons_self _ _), sl.up l'⟩
        exact h1 w' _ l' ro _ (.int _)
    · simp only [hlen, if_false] at h1; exact h1.elim
theorem se_setLen (g : GX M k X) (hgl : Gl X "len") (hm : M.mg "len" = none) (hi : SI M W X tg iter mi) (ok : BlkOk X.N X.env.scope scope own)
    (hg : ∀ (s : Shared) (H : Hp) (C : Addr) (cl : List (Str × Addr)) (fp : List Addr), SG M (X.blk s H scope (compEnvC scope cl C X.env) fp) tg ts mg)
    (ht : ∀ (s : Shared) (H : Hp) (C : Addr) (cl : List (Str × Addr)) (fp : List Addr), STs M W0 (X.blk s H scope (compEnvC scope cl C X.env) fp) ifs mt)
    (he : ∀ (s : Shared) (H : Hp) (C : Addr) (cl : List (Str × Addr)) (fp : List Addr), SE M W0 (X.blk s H scope (compEnvC scope cl C X.env) fp) elt me)
    (hts : ∀ i ∈ ts, i ∈ own.map (·.2)) (hs : ∀ x, foldedSetIterable iter X.env x = pure x) (hst : starEach [.SetComp elt [⟨tg, iter, ifs, 0⟩] scope pos] X.env = (false, eval (.SetComp elt [⟨tg, iter, ifs, 0⟩] scope pos) X.env) :: starEach [] X.env) :
    SE M W X (.Call (.Name "len" p) [.SetComp elt [⟨tg, iter, ifs, 0⟩] scope pos] [] pos2) (eSetLen mi mg mt me (own.map (·.2))) := by
  obtain ⟨wi, i1, i2⟩ := hi
  have hp := pe_scK (pos := pos) g.calm g.nd i1 ok (fun s H C cl fp => (hg s H C cl fp).pg) ht (fun s H C cl fp => (he s H C cl fp).pe) hs
  refine ⟨_, pe_callB call_lenSK hgl (by rw [g.mg]; exact hm) bt_len (pa_cons hp pa_nil hst) (by decide) (by decide) hst rfl, fun w fr env G σ H Q r h => ?_⟩
  exact sc_read (X := X) i2 hts r h
end
end GL
/-! GL part 69: which of two tuples of data is less: only the first pair that differs is asked. -/
namespace GL
open PySem PySem.SeqAt Ob
open PySem.AutoSeq1 (wpAny_loadPart')
open PySem.MeetsSeq PySem.MeetsSeq2 PySem.MeetsSeq3
/-- what is asked of the pair j: nothing, where a pair ahead of it differs -/
def PairAt (A : Around) (s : Shared) (xs ys : Array Value) (e r : Nat → Bool) : Prop :=
  ∀ j (h1 : j < xs.size) (h2 : j < ys.size), (∀ i, i < j → e i = true) → EqAt A.in1 s xs[j] ys[j] (e j) ∧ (e j = false → RcOp .Lt A.in1 s xs[j] ys[j] (r j))
theorem zip_cons {xs ys : Array Value} {i : Nat} {p : Value × Value} {rest : List (Value × Value)} (hz : p :: rest = (xs.toList.zip ys.toList).drop i) :
    ∃ (h1 : i < xs.size) (h2 : i < ys.size), p = (xs[i], ys[i]) ∧ rest = (xs.toList.zip ys.toList).drop (i + 1) := by
  have hl : i < (xs.toList.zip ys.toList).length := Nat.lt_of_not_le fun q => by rw [List.drop_of_length_le q] at hz; cases hz
  have hm : i < xs.size ∧ i < ys.size := by simp at hl; omega
  rw [List.drop_eq_getElem_cons hl] at hz
  injection hz with e1 e2
  exact ⟨hm.1, hm.2, by rw [e1]; simp, e2⟩
theorem zip_nil {xs ys : Array Value} {i : Nat} (hz : [] = (xs.toList.zip ys.toList).drop i) : min xs.size ys.size ≤ i := by
  have := List.drop_eq_nil_iff.mp hz.symm
  simpa using this
theorem lt_firstAt (l b : Addr) (xs ys : Array Value) (n m : Nat) (dl db : Option Addr) (sl sb : Array (Option Value)) (e r : Nat → Bool) :
    Meets (Builtin.«tuple.__lt__» ⟨[.ref l, .ref b], []⟩)
      (fun A R s => s.heap.get? l = some { cls := .type "tuple", dict := dl, data := .seq xs n, slots := sl } ∧
        s.heap.get? b = some { cls := .type "tuple", dict := db, data := .seq ys m, slots := sb } ∧ PairAt A s xs ys e r ∧
        R (.ok (.ret (.bool (lexAt e r (decide (xs.size < ys.size)) 0 (min xs.size ys.size))))) s) :=
  .of_wp fun prog w A R s h => by
    obtain ⟨hp, g, d, tk, os⟩ := s
    obtain ⟨hl, hb, ask, h⟩ := h
    have both := AutoSeq1.sub_tuple_tuple
    wp_walk using wpAny_loadPart' hl, wpAny_loadPart' hb, wpAny_forIn_list _ (fun rest st z => st.1 = none ∧ z = ⟨hp, g, d, tk, os⟩ ∧ ∃ i, rest = (xs.toList.zip ys.toList).drop i ∧ (∀ j, j < i → e j = true) ∧
      R (.ok (.ret (.bool (lexAt e r (decide (xs.size < ys.size)) i (min xs.size ys.size - i))))) ⟨hp, g, d, tk, os⟩) _
    case turn =>
      rintro ⟨p1, p2⟩ rest st z ⟨_, rfl, i, hz, ahead, hR⟩
      obtain ⟨h1, h2, ep, er⟩ := zip_cons hz
      cases ep
      obtain ⟨qe, qr⟩ := ask i h1 h2 ahead
      have step : min xs.size ys.size - i = (min xs.size ys.size - (i + 1)) + 1 := by omega
      rw [step, lexAt_succ] at hR
      refine wpAny_bind (qe prog w _ _ ?_)
      by_cases hei : e i = true
      · rw [if_pos hei] at hR
        rw [hei]
        wp_walk
        exact ⟨rfl, rfl, i + 1, er, fun j hj => (Nat.lt_succ_iff_lt_or_eq.mp hj).elim (ahead j) (fun q => q ▸ hei), hR⟩
      · rw [if_neg hei] at hR
        have hf : e i = false := by simpa using hei
        have ri := qr hf prog w
        rw [hf]
        wp_walk using ri
        exact ⟨_, rfl, by simpa using hR⟩
    case fin =>
      rintro ⟨s1, s2⟩ z ⟨hn, rfl, i, hz, _, hR⟩
      simp only at hn
      subst hn
      rw [Nat.sub_eq_zero_of_le (zip_nil hz), lexAt_zero] at hR
      wp_walk
      exact ⟨_, rfl, by simpa [Builtin.Tuple.tupleCompareSizes] using hR⟩
    case h => exact ⟨rfl, rfl, 0, rfl, (fun j hj => absurd hj (Nat.not_lt_zero j)), by simpa using h⟩
theorem lt_first {A : Around} {s : Shared} {l b : Addr} {xs ys : Array Value} {e r : Nat → Bool} (hl : s.heap.IsTuple l xs) (hb : s.heap.IsTuple b ys) (hu : A.units < cLine) (ask : PairAt A s xs ys e r) :
    RcOp .Lt A s (.ref l) (.ref b) (lexAt e r (decide (xs.size < ys.size)) 0 (min xs.size ys.size)) := fun prog w E Q h => by
  obtain ⟨⟨c1, dl, d1, sl⟩, ho, hc, n, hd⟩ := id hl
  obtain ⟨⟨c2, db, d2, sb⟩, ho2, hc2, m, hd2⟩ := id hb
  cases hc; cases hd; cases hc2; cases hd2
  exact richCompare_meets_room (op := .Lt) ⟨_, ho, rfl⟩ ⟨_, ho2, rfl⟩ F.slot_tuple_lt F.entry_tuple_lt (F.args_tuple_lt_2 _ _) (lt_firstAt l b xs ys n m dl db sl sb e r) ⟨ho, ho2, ask, (fun z => nomatch z), h⟩ hu
mutual
/-- which of two data is less: ints, texts, tuples of these -/
def ltPy : PyData → PyData → Option Bool
  | .int i, .int j => some (decide (i < j))
  | .str x, .str y => some (decide (x.cps.toList < y.cps.toList))
  | .tuple xs, .tuple ys => ltPys xs ys
  | _, _ => none
def ltPys : List PyData → List PyData → Option Bool
  | [], [] => some false
  | [], _ :: _ => some true
  | _ :: _, [] => some false
  | x :: xs, y :: ys => if PyData.eqv x y = true then ltPys xs ys else ltPy x y
end
theorem lexAt_lt (e r : Nat → Bool) : ∀ (xs ys : List PyData) (i : Nat) (z b : Bool), z = decide (xs.length < ys.length) → (∀ j x y, xs[j]? = some x → ys[j]? = some y → e (i + j) = PyData.eqv x y ∧ ((∀ m, m < j → e (i + m) = true) → PyData.eqv x y = false → ltPy x y = some (r (i + j)))) →
    ltPys xs ys = some b → lexAt e r z i (min xs.length ys.length) = b
  | [], [], i, z, b, hz, _, h => by rw [ltPys] at h; cases h; simpa [lexAt_zero] using hz
  | [], _ :: _, i, z, b, hz, _, h => by rw [ltPys] at h; cases h; simpa [lexAt_zero] using hz
  | _ :: _, [], i, z, b, hz, _, h => by rw [ltPys] at h; cases h; simpa [lexAt_zero] using hz
  | x :: xs, y :: ys, i, z, b, hz, ask, h => by
    have h0 := ask 0 x y rfl rfl
    rw [ltPys] at h
    rw [show min (x :: xs).length (y :: ys).length = min xs.length ys.length + 1 by simp only [List.length_cons]; omega, lexAt_succ]
    rw [Nat.add_zero] at h0
    by_cases q : PyData.eqv x y = true
    · rw [if_pos q] at h
      rw [if_pos (by rw [h0.1]; exact q)]
      refine lexAt_lt e r xs ys (i + 1) z b (by rw [hz]; simp) (fun j a c ha hc => ?_) h
      have := ask (j + 1) a c (by simpa using ha) (by simpa using hc)
      rw [show i + (j + 1) = i + 1 + j by omega] at this
      refine ⟨this.1, fun hm hq => this.2 (fun m hm' => ?_) hq⟩
      cases m with
      | zero => rw [Nat.add_zero, h0.1]; exact q
      | succ m => rw [show i + (m + 1) = i + 1 + m by omega]; exact hm m (by omega)
    · rw [if_neg q] at h
      rw [if_neg (by rw [h0.1]; exact q)]
      have := h0.2 (fun m hm => absurd hm (Nat.not_lt_zero m)) (by simpa using q)
      rw [this] at h
      exact Option.some.inj h
theorem ltPys_at : ∀ (xs ys : List PyData) (j : Nat) (x y : PyData), xs[j]? = some x → ys[j]? = some y → (∀ i a c, i < j → xs[i]? = some a → ys[i]? = some c → PyData.eqv a c = true) → PyData.eqv x y = false → ltPys xs ys = ltPy x y
  | [], _, j, x, y, hx, _, _, _ => by simp at hx
  | _ :: _, [], j, x, y, _, hy, _, _ => by simp at hy
  | a :: xs, c :: ys, 0, x, y, hx, hy, _, hq => by
    simp at hx hy; subst hx hy
    rw [ltPys, if_neg (by rw [hq]; decide)]
  | a :: xs, c :: ys, j + 1, x, y, hx, hy, ah, hq => by
    rw [ltPys, if_pos (ah 0 a c (by omega) rfl rfl)]
    exact ltPys_at xs ys j x y (by simpa using hx) (by simpa using hy) (fun i p q hi hp hq' => ah (i + 1) p q (by omega) (by simpa using hp) (by simpa using hq')) hq
theorem readsAll_at {h : Heap} : ∀ {vs : List Value} {xs : List PyData} {as : List Addr} {j : Nat} {x : PyData}, ReadsAll h vs xs as → xs[j]? = some x → ∃ v bs, vs[j]? = some v ∧ Reads h v x bs
  | _, _, _, j, x, .nil, e => by simp at e
  | _, _, _, 0, x, .cons r1 r2, e => by simp at e; subst e; exact ⟨_, _, rfl, r1⟩
  | _, _, _, j + 1, x, .cons r1 r2, e => by
    obtain ⟨v, bs, h1, h2⟩ := readsAll_at (j := j) r2 (by simpa using e)
    exact ⟨v, bs, by simpa using h1, h2⟩
theorem readsAll_length {h : Heap} : ∀ {vs : List Value} {xs : List PyData} {as : List Addr}, ReadsAll h vs xs as → vs.length = xs.length
  | _, _, _, .nil => rfl
  | _, _, _, .cons r1 r2 => by simp [readsAll_length r2]
theorem depth_at : ∀ {xs : List PyData} {j : Nat} {x : PyData}, xs[j]? = some x → x.depth ≤ PyData.depthAll xs
  | [], j, x, h => by simp at h
  | a :: xs, 0, x, h => by simp at h; subst h; rw [PyData.depthAll]; exact Nat.le_max_left _ _
  | a :: xs, j + 1, x, h => by rw [PyData.depthAll]; exact Nat.le_trans (depth_at (j := j) (by simpa using h)) (Nat.le_max_right _ _)
theorem lay_at : ∀ {xs : List PyData} {j : Nat} {x : PyData}, PyData.canLayAll0 xs = true → xs[j]? = some x → x.canLay0 = true
  | [], j, x, _, h => by simp at h
  | a :: xs, 0, x, hc, h => by
    simp at h; subst h
    have hc : a.canLay0 = true ∧ PyData.canLayAll0 xs = true := by simpa [PyData.canLayAll0] using hc
    exact hc.1
  | a :: xs, j + 1, x, hc, h => by
    have hc : a.canLay0 = true ∧ PyData.canLayAll0 xs = true := by simpa [PyData.canLayAll0] using hc
    exact lay_at (j := j) hc.2 (by simpa using h)
/-- the one is less than the other -/
theorem rc_lt : ∀ (n : Nat) (da db : PyData) (A : Around) (s : Shared) (a b : Value) (as bs : List Addr) (c : Bool), da.depth ≤ n → Reads s.heap a da as → Reads s.heap b db bs → da.canLay0 = true → db.canLay0 = true → A.units + n < cLine → ltPy da db = some c → RcOp .Lt A s a b c
  | 0, .tuple xs, db, A, s, a, b, as, bs, c, hd, _, _, _, _, _, _ => by rw [PyData.depth] at hd; omega
  | n, .int i, .int j, A, s, a, b, as, bs, c, _, ra, rb, _, _, _, h => by
    cases ra; cases rb
    rw [ltPy] at h; cases h
    exact RcOp.lt_int _ _ _ _
  | n, .str x, .str y, A, s, a, b, as, bs, c, _, ra, rb, _, _, _, h => by
    cases ra; cases rb
    rw [ltPy] at h; cases h
    exact fun _ _ _ _ q => PySem.P.lt_str q
  | n + 1, .tuple xs, .tuple ys, A, s, a, b, as, bs, c, hd, ra, rb, la, lb, hu, h => by
    rw [ltPy] at h
    rw [PyData.depth] at hd
    have la : PyData.canLayAll0 xs = true := by simpa [PyData.canLay0] using la
    have lb : PyData.canLayAll0 ys = true := by simpa [PyData.canLay0] using lb
    cases ra with
    | tuple h1 h2 h3 h4 =>
      rename_i l o vs m
      cases rb with
      | tuple k1 k2 k3 k4 =>
        rename_i l' o' ws m'
        have z1 : vs.size = xs.length := by rw [← Array.length_toList]; exact readsAll_length h4
        have z2 : ws.size = ys.length := by rw [← Array.length_toList]; exact readsAll_length k4
        have gv : ∀ j (hj : j < vs.size), ∃ x bs, xs[j]? = some x ∧ Reads s.heap vs[j] x bs := fun j hj => by
          have hx : xs[j]? = some (xs[j]'(by omega)) := List.getElem?_eq_getElem _
          obtain ⟨v, bs, e1, e2⟩ := readsAll_at h4 hx
          rw [Array.getElem?_toList, Array.getElem?_eq_getElem hj] at e1
          cases e1
          exact ⟨_, bs, hx, e2⟩
        have gw : ∀ j (hj : j < ws.size), ∃ x bs, ys[j]? = some x ∧ Reads s.heap ws[j] x bs := fun j hj => by
          have hx : ys[j]? = some (ys[j]'(by omega)) := List.getElem?_eq_getElem _
          obtain ⟨v, bs, e1, e2⟩ := readsAll_at k4 hx
          rw [Array.getElem?_toList, Array.getElem?_eq_getElem hj] at e1
          cases e1
          exact ⟨_, bs, hx, e2⟩
        have main := lt_first (e := fun j => PyData.eqv (xs.getD j .none) (ys.getD j .none)) (r := fun j => (ltPy (xs.getD j .none) (ys.getD j .none)).getD false) ⟨o, h1, h2, m, h3⟩ ⟨o', k1, k2, m', k3⟩ (A := A) (s := s) (by omega) (by
          intro j hj1 hj2 ahead
          obtain ⟨x, bx, ex, rx⟩ := gv j hj1
          obtain ⟨y, by', ey, ry⟩ := gw j hj2
          have dx : x.depth ≤ n := Nat.le_trans (depth_at ex) (by omega)
          have g1 : xs.getD j .none = x := by rw [List.getD_eq_getElem?_getD, ex]; rfl
          have g2 : ys.getD j .none = y := by rw [List.getD_eq_getElem?_getD, ey]; rfl
          simp only [g1, g2]
          refine ⟨eqAt_reads x y A.in1 s _ _ _ _ rx ry (lay_at la ex) (lay_at lb ey) ?_, fun hq => ?_⟩
          · have : min x.depth y.depth ≤ n := Nat.le_trans (Nat.min_le_left _ _) dx
            show A.units + 1 + min x.depth y.depth < cLine
            omega
          · have at_ := ltPys_at xs ys j x y ex ey (fun i p q hi hp hq' => by
              have := ahead i hi
              simp only [List.getD_eq_getElem?_getD, hp, hq', Option.getD_some] at this
              exact this) hq
            rw [h] at at_
            rw [← at_]
            exact rc_lt n x y A.in1 s _ _ _ _ c dx rx ry (lay_at la ex) (lay_at lb ey) (by show A.units + 1 + n < cLine; omega) at_.symm)
        have key := lexAt_lt (fun j => PyData.eqv (xs.getD j .none) (ys.getD j .none)) (fun j => (ltPy (xs.getD j .none) (ys.getD j .none)).getD false) xs ys 0 (decide (xs.length < ys.length)) c rfl (by
          intro j x y hx hy
          rw [Nat.zero_add]
          have g1 : xs.getD j .none = x := by rw [List.getD_eq_getElem?_getD, hx]; rfl
          have g2 : ys.getD j .none = y := by rw [List.getD_eq_getElem?_getD, hy]; rfl
          simp only [g1, g2]
          refine ⟨trivial, fun hm hq => ?_⟩
          have at_ := ltPys_at xs ys j x y hx hy (fun i p q hi hp hq' => by
            have := hm i hi
            simp only [Nat.zero_add, List.getD_eq_getElem?_getD, hp, hq', Option.getD_some] at this
            exact this) hq
          rw [h] at at_
          rw [← at_]; rfl) h
        rw [z1, z2, key] at main
        exact main
  | n, .none, _, _, _, _, _, _, _, _, _, _, _, _, _, _, h => by rw [ltPy] at h; cases h; all_goals simp
  | n, .bool _, _, _, _, _, _, _, _, _, _, _, _, _, _, _, h => by rw [ltPy] at h; cases h; all_goals simp
  | n, .list _, _, _, _, _, _, _, _, _, _, _, _, _, _, _, h => by rw [ltPy] at h; cases h; all_goals simp
  | n, .dict _, _, _, _, _, _, _, _, _, _, _, _, _, _, _, h => by rw [ltPy] at h; cases h; all_goals simp
  | n, .int _, .none, _, _, _, _, _, _, _, _, _, _, _, _, _, h => by rw [ltPy] at h; cases h; all_goals simp
  | n, .int _, .bool _, _, _, _, _, _, _, _, _, _, _, _, _, _, h => by rw [ltPy] at h; cases h; all_goals simp
  | n, .int _, .str _, _, _, _, _, _, _, _, _, _, _, _, _, _, h => by rw [ltPy] at h; cases h; all_goals simp
  | n, .int _, .list _, _, _, _, _, _, _, _, _, _, _, _, _, _, h => by rw [ltPy] at h; cases h; all_goals simp
  | n, .int _, .tuple _, _, _, _, _, _, _, _, _, _, _, _, _, _, h => by rw [ltPy] at h; cases h; all_goals simp
  | n, .int _, .dict _, _, _, _, _, _, _, _, _, _, _, _, _, _, h => by rw [ltPy] at h; cases h; all_goals simp
  | n, .str _, .none, _, _, _, _, _, _, _, _, _, _, _, _, _, h => by rw [ltPy] at h; cases h; all_goals simp
  | n, .str _, .bool _, _, _, _, _, _, _, _, _, _, _, _, _, _, h => by rw [ltPy] at h; cases h; all_goals simp
  | n, .str _, .int _, _, _, _, _, _, _, _, _, _, _, _, _, _, h => by rw [ltPy] at h; cases h; all_goals simp
  | n, .str _, .list _, _, _, _, _, _, _, _, _, _, _, _, _, _, h => by rw [ltPy] at h; cases h; all_goals simp
  | n, .str _, .tuple _, _, _, _, _, _, _, _, _, _, _, _, _, _, h => by rw [ltPy] at h; cases h; all_goals simp
  | n, .str _, .dict _, _, _, _, _, _, _, _, _, _, _, _, _, _, h => by rw [ltPy] at h; cases h; all_goals simp
  | n + 1, .tuple _, .none, _, _, _, _, _, _, _, _, _, _, _, _, _, h => by rw [ltPy] at h; cases h; all_goals simp
  | n + 1, .tuple _, .bool _, _, _, _, _, _, _, _, _, _, _, _, _, _, h => by rw [ltPy] at h; cases h; all_goals simp
  | n + 1, .tuple _, .int _, _, _, _, _, _, _, _, _, _, _, _, _, _, h => by rw [ltPy] at h; cases h; all_goals simp
  | n + 1, .tuple _, .str _, _, _, _, _, _, _, _, _, _, _, _, _, _, h => by rw [ltPy] at h; cases h; all_goals simp
  | n + 1, .tuple _, .list _, _, _, _, _, _, _, _, _, _, _, _, _, _, h => by rw [ltPy] at h; cases h; all_goals simp
  | n + 1, .tuple _, .dict _, _, _, _, _, _, _, _, _, _, _, _, _, _, h => by rw [ltPy] at h; cases h; all_goals simp
end GL
/-! GL part 43: attributes of instances: read, written. -/
namespace GL
open PySem L2 PyProof.Rows
/-- what of the text a class and a name must have -/
structure ClsF (M : Im) (c : Nat) (f : Str) (Ca : Addr) : Prop where
  at_ : M.fa c = some Ca
  cls : Cls M.K Ca
  no : NoAttr M.K Ca f
def eFld (c : Nat) (f : Str) (a : ME) : ME := fun env g => (a env g).bind fun x g1 => match x with
  | .loc n => match g1[n]? with
    | some (.ins c' fs) => if c' = c then (match fs.lookup f with | some d => .ok d g1 | none => .bad) else .bad
    | _ => .bad
  | _ => .bad
def putD (f : Str) (d : D) : List (Str × D) → List (Str × D)
  | [] => [(f, d)]
  | (g, e) :: r => if g = f then (g, d) :: r else (g, e) :: putD f d r
def sFldS (c : Nat) (f : Str) (v o : ME) : MS := fun env g => (v env g).bindS fun y g1 => (o env g1).bindS fun x g2 => match x with
  | .loc n => match g2[n]? with
    | some (.ins c' fs) => if c' = c ∧ fs.length < 1000 then .nx env (g2.set n (.ins c (putD f y fs))) else .bad
    | _ => .bad
  | _ => .bad
section
variable {M : Im} {W : XW} {X : Cx} {k : Nat} {w : Wd}
theorem FV.lookup {f : Str} : ∀ {fs : List (Str × D)} {vs : List (Str × V)} {d : D}, FV M w fs vs → fs.lookup f = some d → ∃ v, vs.lookup f = some v ∧ DV M w d v
  | _, _, _, .nil, h => by simp at h
  | _, _, d, .cons (f := g) a b, h => by
    by_cases q : f = g
    · subst q
      simp [List.lookup] at h
      subst h
      exact ⟨_, by simp [List.lookup], a⟩
    · have hq : (f == g) = false := by simpa using q
      simp only [List.lookup, hq] at h ⊢
      exact FV.lookup b h
theorem FV.length : ∀ {fs : List (Str × D)} {vs : List (Str × V)}, FV M w fs vs → fs.length = vs.length
  | _, _, .nil => rfl
  | _, _, .cons _ b => by simp [FV.length b]
theorem FV.put {f : Str} {d : D} {v : V} (h : DV M w d v) : ∀ {fs : List (Str × D)} {vs : List (Str × V)}, FV M w fs vs → FV M w (putD f d fs) (putF f v vs)
  | _, _, .nil => .cons h .nil
  | _, _, .cons (f := g) a b => by
    unfold putD putF
    by_cases q : g = f
    · rw [if_pos q, if_pos q]; exact .cons h b
    · rw [if_neg q, if_neg q]; exact .cons a (FV.put h b)
variable {a b o : Expr} {ma mb mo : ME} {pos p : Pos} {f : Str} {c : Nat} {Ca : Addr}
theorem se_fld (g : GX M k X) (hC : ClsF M c f Ca) (ha : SE M W X a ma) (hb : attributeBase a f X.env (eval a X.env) = eval a X.env) : SE M W X (.Attribute a f pos) (eFld c f ma) := by
  obtain ⟨t, a1, a2⟩ := ha
  refine ⟨_, pe_fld a1 hb, fun w fr env G σ H Q rs h => ?_⟩
  refine a2 w fr env G σ H _ rs ((Post.bind h).imp fun x w1 G1 H1 l1 r1 h1 vx dx => ?_)
  cases dx <;> try exact h1.elim
  rename_i n q hq
  simp only at h1
  cases e : G1[n]? with
  | none => rw [e] at h1; exact h1.elim
  | some ob =>
    rw [e] at h1
    cases ob with
    | lst xs => exact h1.elim
    | dct kvs => exact h1.elim
    | ins c' fs =>
      simp only at h1
      by_cases hc : c' = c
      · rw [if_pos hc] at h1
        subst hc
        obtain ⟨q', ho, e1, e2, e3⟩ := r1.obj e
        rw [hq] at e1; cases e1
        cases e3 with
        | ins f1 f2 =>
          rename_i Cb dx' vs
          rw [hC.at_] at f1; cases f1
          cases el : fs.lookup f with
          | none => rw [el] at h1; exact h1.elim
          | some d =>
            rw [el] at h1
            obtain ⟨v, hv, dv⟩ := FV.lookup f2 el
            have hcl := hC.cls
            have hno := hC.no
            rw [← g.K] at hcl hno
            exact ⟨_, _, _, _, v, rfl, e2, hcl, hno, hv, Post.here h1 r1 _ dv⟩
      · rw [if_neg hc] at h1; exact h1.elim
theorem ss_fld (g : GX M k X) (hC : ClsF M c f Ca) (ho : SE M W X o mo) (ha : SE M W X a ma) (hs : swapsWith a (some (.Attribute o f p)) pos.line X.env = pure false) : SS M W X (.Assign [.Attribute o f p] a pos) (sFldS c f ma mo) := by
  obtain ⟨t, a1, a2⟩ := ha
  obtain ⟨u, b1, b2⟩ := ho
  refine ⟨_, ps_fld b1 a1 hs, fun w fr env G σ H D r h => ?_⟩
  refine a2 w fr env G σ H _ r ((PostS.bind h).imp fun y w1 G1 H1 l1 r1 h1 vy dy => ?_)
  refine b2 w1 fr env G1 σ H1 _ r1 ((PostS.bind h1).imp fun x w2 G2 H2 l2 r2 h2 vx dx => ?_)
  cases dx <;> try exact h2.elim
  rename_i n q hq
  simp only at h2
  cases e : G2[n]? with
  | none => rw [e] at h2; exact h2.elim
  | some ob =>
    rw [e] at h2
    cases ob with
    | lst xs => exact h2.elim
    | dct kvs => exact h2.elim
    | ins c' fs =>
      simp only at h2
      by_cases hc : c' = c ∧ fs.length < 1000
      · rw [if_pos hc] at h2
        obtain ⟨rfl, hl⟩ := hc
        obtain ⟨q', hob, e1, e2, e3⟩ := r2.obj e
        rw [hq] at e1; cases e1
        cases e3 with
        | ins f1 f2 =>
          rename_i Cb dx' vs
          have f1' := f1
          rw [hC.at_] at f1; cases f1
          have hcl := hC.cls
          have hno := hC.no
          rw [← g.K] at hcl hno
          refine ⟨_, _, _, _, rfl, e2, hcl, hno, by rw [← f2.length]; exact hl, ?_⟩
          exact h2 w2 σ _ (Wd.Le.refl w2) (r2.setObj hq (.ins f1' (f2.put (dy.up l2))))
      · rw [if_neg hc] at h2; exact h2.elim
end
end GL
/-! GL part 44: instances made. -/
namespace GL
open PySem L2 PyProof.Rows
theorem RG.extra {M : Im} {w : Wd} {fr : List (Addr × HO)} {G : Gh} {H : Hp} {p : Addr} {o : HO} (r : RG M w fr G H) (h : H p = none) : RG M w fr G (upd H p o) where
  cold := fun a o' hc => by
    have q := r.cold a o' hc
    rw [upd_ne (fun e => by rw [e, h] at q; cases q)]; exact q
  len := r.len
  obj := fun n o' a hn ha => by
    obtain ⟨ho, q, z⟩ := r.obj n o' a hn ha
    exact ⟨ho, by rw [upd_ne (fun e => by rw [e, h] at q; cases q)]; exact q, z⟩
  frm := fun x hx => by
    have q := r.frm x hx
    rw [upd_ne (fun e => by rw [e, h] at q; cases q)]; exact q
  nd := r.nd
  hot := r.hot
def makeR (c : Nat) (m : FM) (args : D → List D) (g : Gh) : R D := match m (args (.loc g.length)) (g ++ [.ins c []]) with
  | .ok .non g' => .ok (.loc g.length) g'
  | _ => .bad
def eMake (c : Nat) (m : FM) (n : Nat) (nk : Nat) (pm : List Nat) (dd : List D) (l lk : ML) : ME := fun env g => (l env g).bind fun ds g1 => (lk env g1).bind fun es g2 => if ds.length = n ∧ es.length = nk then makeR c m (fun x => permL pm (x :: ds ++ es ++ dd)) g2 else .bad
section
variable {M : Im} {W : XW} {X : Cx} {k j n c : Nat} {e : Expr} {es : List Expr} {kws : List Keyword} {ml mk : ML} {ma : ME} {x : Str} {p pos kpos : Pos} {f C : Addr} {fd : FuncData} {ps ks : List Str} {m : FM} {pm : List Nat} {dd : List D} {nm : Option Str}
theorem run_GM (F : FnG X.prog X.w M X.base j f fd ps m) (hr : Room (j + 1) X.A) (g : GX M k X) (Mk' : Mk X.K C f) (hC : M.fa c = some C) (hb : Bnd M fd ps (n + 1) ks pm dd) {pins : List (Addr × Obj)} {σ : L2.St} {H : Hp} {s : Shared} {Q : VK} {us ws : List Value} {vs zs : List V} {w : Wd} {fr : List (Addr × HO)} {env : Env'} {G : Gh} {ds es' : List D}
    (I : Inv X pins σ H s) (r : Vals vs us) (rz : Vals zs ws) (l1 : ds.length = n) (l2 : es'.length = ks.length) (rs : RS M w fr env G σ H) (d1 : DVs M w ds vs) (d2 : DVs M w es' zs)
    (h : Post M W fr env σ w (PE' M Q) (makeR c m (fun x => permL pm (x :: ds ++ es' ++ dd)) G)) : wpAny (model X.prog X.w) X.A (call (.ref C) us (ks.zip ws)) (EP X pins σ Q) X.xe s := by
  obtain ⟨dv, du, q1, q2, q3⟩ := hb.ex
  have hx : H (s.heap.objs.size + 1) = none := I.hok.fresh (Nat.le_succ _)
  have hdx : H s.heap.objs.size = none := I.hok.fresh (Nat.le_refl _)
  have ne : s.heap.objs.size ≠ s.heap.objs.size + 1 := Nat.ne_of_lt (Nat.lt_succ_self _)
  have I2 := Inv.made (C := C) I
  obtain ⟨os, rg, sl⟩ := rs
  have rg1 := rg.extra (o := .own (s.heap.objs.size + 1)) hdx
  have hx1 : upd H s.heap.objs.size (.own (s.heap.objs.size + 1)) (s.heap.objs.size + 1) = none := by rw [upd_ne ne.symm]; exact hx
  obtain ⟨le, rg2⟩ := rg1.newHot (o := .ins c []) (ho := .ins C s.heap.objs.size []) hx1 (.ins hC .nil)
  have loc : DV M ⟨w.C, w.ρ ++ [s.heap.objs.size + 1]⟩ (.loc G.length) (.ref (s.heap.objs.size + 1)) := .loc (by
    show (w.ρ ++ [s.heap.objs.size + 1])[G.length]? = _
    rw [← rg.len]; simp)
  have r1 : Vals (V.ref (s.heap.objs.size + 1) :: vs) (Value.ref (s.heap.objs.size + 1) :: us) := .cons rfl r
  have rv := permL_Vals ((r1.append rz).append q1) pm
  have rd := permL_DVs (((DVs.cons loc (d1.up le)).append (d2.up le)).append (q2 _)) pm
  have e0 := I2.env0
  rw [g.K, g.mg] at e0
  have kin := I2.kIn
  rw [g.K] at kin
  refine wpAny_call (make_map (f := f) I.kIn Mk'.makes Mk'.init (beq_iff_eq.mp Mk'.fn) (codeAny_mono (F.run _ X.stack _ _ ⟨Value.ref (s.heap.objs.size + 1) :: us, ks.zip ws⟩ _ _ _ (os ++ fr) _ (G ++ [.ins c []]) (fun v H2 => v = .non ∧ Q (.ref (s.heap.objs.size + 1)) H2) (hr.make C us (ks.zip ws)) g.gd (e0.make C us (ks.zip ws))
    (q3 _ (Value.ref (s.heap.objs.size + 1) :: us) ws kin ?_ ?_) rv rg2 rd ?_) fun r s' hq' => ?_))
  · simp only [List.length_cons]; rw [← r.length, ← d1.length, l1]
  · rw [← rz.length, ← d2.length]; exact l2
  · revert h
    unfold makeR
    cases m (permL pm (.loc G.length :: ds ++ es' ++ dd)) (G ++ [.ins c []]) with
    | ok d G' =>
      cases d with
      | non =>
        intro h w' v H' l rg' dv
        cases dv
        exact ⟨rfl, h w' H' (le.trans l) ⟨os, rg', (sl.up le).up l⟩ _ (loc.up l)⟩
      | _ => exact fun h => h.elim
    | exc x G' => exact fun h => h.elim
    | bad => exact fun h => h.elim
  · cases r with
    | error e => exact False.elim hq'
    | ok fl =>
      cases fl with
      | ret u =>
        obtain ⟨v, H', I3, rv, ev, q3⟩ := I2.after hq'
        subst ev
        exact ⟨rv, ⟨V.ref (s.heap.objs.size + 1), H', I3, rfl, q3⟩⟩
      | next => exact False.elim hq'
      | brk => exact False.elim hq'
      | cont => exact False.elim hq'
/-- a class of the program, made -/
theorem se_make (F : FnG X.prog X.w M X.base j f fd ps m) (hj : j + 1 ≤ k) (g : GX M k X) (Mk0 : Mk M.K C f) (hC : M.fa c = some C) (hb : Bnd M fd ps (n + 1) ks pm dd) (hg : Gl X x) (hm : M.mg x = some (.ref C))
    (ha : SA M W X es ml) (hkw : SK M W X kws mk) (hdb : (x == ("__debug__" : Str)) = false)
    (hst : starEach es X.env = es.map fun e => (false, eval e X.env)) (hks : kws.map (·.arg) = ks.map some) :
    SE M W X (.Call (.Name x p) es kws pos) (eMake c m n ks.length pm dd ml mk) := by
  obtain ⟨t, a1, a2⟩ := ha
  obtain ⟨u, b1, b2⟩ := hkw
  have hr := g.room.mono hj
  have Mk1 : Mk X.K C f := by rw [g.K]; exact Mk0
  have kk : PySem.W.keepIn X.K (.ref C) = true := Mk1.kp
  have mm : X.mg x = some (.ref C) := by rw [g.mg]; exact hm
  -- the shapes
  have ek : keywordEach kws X.env = kws.map fun q => (q.arg, eval q.value X.env) := by
    clear hks b1 b2
    induction kws with
    | nil => rfl
    | cons q r ih => obtain ⟨a, v, pp⟩ := q; unfold keywordEach; rw [ih]; rfl
  have fk : (backToKw pos (keywordEach kws X.env)).filterMap (·.1) = ks := by
    rw [ek]; unfold backToKw; rw [List.map_map, List.filterMap_map]
    have : (kws.filterMap fun q => q.arg) = (kws.map (·.arg)).filterMap (fun o => o) := by rw [List.filterMap_map]; rfl
    show (kws.filterMap fun q => q.arg) = ks
    rw [this, hks, List.filterMap_map]
    exact List.filterMap_some
  have hall : (backToKw pos (keywordEach kws X.env)).all (·.1.isSome) = true := by
    rw [ek]; unfold backToKw
    rw [List.map_map, List.all_map]
    rw [List.all_eq_true]
    intro q hq
    have : q.arg ∈ kws.map (·.arg) := List.mem_map.mpr ⟨q, hq, rfl⟩
    rw [hks] at this
    obtain ⟨y, _, e⟩ := List.mem_map.mp this
    show q.arg.isSome = true
    rw [← e]; rfl
  have hnone : (backToKw pos (keywordEach kws X.env)).any (·.1.isNone) = false := by
    rw [List.any_eq_false]
    intro q hq
    have := List.all_eq_true.mp hall q hq
    cases e : q.1 with
    | none => rw [e] at this; cases this
    | some _ => simp
  have hst' : ∀ l : List Expr, starEach l X.env = (l.map fun e => (false, eval e X.env)) → (backTo pos (starEach l X.env)).any (·.1) = false := fun l e => by
    rw [e]; unfold backTo; rw [List.map_map, List.any_map, List.any_eq_false]; intro q _; simp
  refine ⟨fun σ H Q => t σ H fun vs H1 => u σ H1 fun zs H2 => ∃ w fr env G ds es', RS M w fr env G σ H2 ∧ DVs M w ds vs ∧ DVs M w es' zs ∧ ds.length = n ∧ es'.length = ks.length ∧ Post M W fr env σ w (PE' M Q) (makeR c m (fun x => permL pm (x :: ds ++ es' ++ dd)) G), ⟨fun pins s σ H Q I h => ?_⟩, fun w fr env G σ H Q rs h => ?_⟩
  · refine wpAny_Call_Name_kw (ld_glob I hg mm ?_ hdb)
    cases es with
    | nil =>
      refine PySem.W.callWith_KW0 (h₀ := X.base) I.ok.mod.kin kk hall ?_ (by rw [hnone]; rfl)
      have h0 : wpAny (model X.prog X.w) X.A (pure [] : Sem (List Value)) _ X.xe s := a1.run pos pins s σ H _ I h
      have h1 := wpAny_bind (m := (pure [] : Sem (List Value))) (f := fun us => evalAll ((backToKw pos (keywordEach kws X.env)).map (·.2)) >>= fun ws => pure (us, ws)) (Q := fun (p : List Value × List Value) s2 => X.K.In s2.heap ∧ wpAny (model X.prog X.w) X.A (call (.ref C) p.1 (ks.zip p.2)) (EP X pins σ Q) X.xe s2)
        (thn h0 fun us s1 ⟨vs, H1, I1, r, q⟩ => wpAny_bind (thn (b1.run pos pins s1 σ H1 _ I1 q) fun ws s2 ⟨zs, H2, I2, rz, w, fr, env, G, ds, es', rs, d1, d2, l1, l2, h⟩ => wpAny_pure ⟨I2.kIn, run_GM F hr g Mk1 hC hb I2 r rz l1 l2 rs d1 d2 h⟩))
      rw [pure_bind] at h1
      rw [fk]
      exact wpAny_of_bind_pure h1
    | cons e er =>
      have he : starEach (e :: er) X.env = (false, eval e X.env) :: starEach er X.env := by
        have : starEach er X.env = er.map fun e => (false, eval e X.env) := by
          cases e <;> first | exact (List.cons.inj hst).2 | (exfalso; have := (List.cons.inj hst).1; cases (Prod.mk.inj this).1)
        rw [this]; exact hst
      refine PySem.W.callWith_KW (h₀ := X.base) I.ok.mod.kin kk hall (thn (a1.run pos pins s σ H _ I h) fun us s1 ⟨vs, H1, I1, r, q⟩ => ?_) (by rw [hst' _ hst, hnone]; rfl) he
      refine thn (b1.run pos pins s1 σ H1 _ I1 q) fun ws s2 ⟨zs, H2, I2, rz, w, fr, env, G, ds, es', rs, d1, d2, l1, l2, h⟩ => ⟨I2.kIn, ?_⟩
      rw [fk]
      exact run_GM F hr g Mk1 hC hb I2 r rz l1 l2 rs d1 d2 h
  · refine a2 w fr env G σ H _ rs ((Post.bind h).imp fun ds w1 G1 H1 l1 r1 h1 vs d1 => ?_)
    refine b2 w1 fr env G1 σ H1 _ r1 ((Post.bind h1).imp fun es' w2 G2 H2 l2 r2 h2 zs d2 => ?_)
    by_cases hl : ds.length = n ∧ es'.length = ks.length
    · rw [if_pos hl] at h2
      exact ⟨w2, fr, env, G2, ds, es', r2, d1.up l2, d2, hl.1, hl.2, h2⟩
    · rw [if_neg hl] at h2; exact h2.elim
end
end GL
/-! GL part 45: methods called. -/
namespace GL
open PySem L2 PyProof.Rows
def isInsOk (c : Nat) (mn : Str) (x : D) (g : Gh) : Bool := match x with
  | .loc i => match g[i]? with
    | some (.ins c' fs) => decide (c' = c) && (fs.lookup mn).isNone
    | _ => false
  | _ => false
def eMeth (c : Nat) (mn : Str) (m : FM) (n : Nat) (nk : Nat) (pm : List Nat) (dd : List D) (o : ME) (l lk : ML) : ME := fun env g => (o env g).bind fun x g0 => if isInsOk c mn x g0 then (l env g0).bind fun ds g1 => (lk env g1).bind fun es g2 => if ds.length = n ∧ es.length = nk then noX (m (permL pm (x :: ds ++ es ++ dd)) g2) else .bad else .bad
section
variable {M : Im} {W : XW} {X : Cx} {k j n c : Nat} {e o : Expr} {es : List Expr} {kws : List Keyword} {ml mk : ML} {ma mo : ME} {x mn : Str} {p pos kpos apos : Pos} {f C : Addr} {fd : FuncData} {ps ks : List Str} {m : FM} {pm : List Nat} {dd : List D} {nm : Option Str}
theorem FV.lookup_none {w : Wd} {f : Str} : ∀ {fs : List (Str × D)} {vs : List (Str × V)}, FV M w fs vs → fs.lookup f = none → vs.lookup f = none
  | _, _, .nil, _ => rfl
  | _, _, .cons (f := g) a b, h => by
    by_cases q : f = g
    · subst q
      simp [List.lookup] at h
    · have hq : (f == g) = false := by simpa using q
      simp only [List.lookup, hq] at h ⊢
      exact FV.lookup_none b h
theorem isInsOk_of {w : Wd} {fr : List (Addr × HO)} {env : Env'} {G : Gh} {σ : L2.St} {H : Hp} {d : D} {v : V} (hC : M.fa c = some C) (r : RS M w fr env G σ H) (hd : DV M w d v) (h : isInsOk c mn d G = true) : ∃ a dx vs, v = .ref a ∧ H a = some (.ins C dx vs) ∧ vs.lookup mn = none := by
  cases hd <;> try (simp [isInsOk] at h; done)
  rename_i i a ha
  unfold isInsOk at h
  simp only at h
  cases q : G[i]? with
  | none => rw [q] at h; simp at h
  | some ob =>
    rw [q] at h
    cases ob with
    | lst xs => simp at h
    | dct kvs => simp at h
    | ins c' fs =>
      simp only [Bool.and_eq_true, decide_eq_true_eq, Option.isNone_iff_eq_none] at h
      obtain ⟨rfl, hl⟩ := h
      obtain ⟨a', ho, e1, e2, e3⟩ := r.obj q
      rw [ha] at e1; cases e1
      cases e3 with
      | ins f1 f2 =>
        rw [hC] at f1; cases f1
        exact ⟨_, _, _, rfl, e2, FV.lookup_none f2 hl⟩
/-- a method of an instance, called -/
theorem se_meth {pl : Sem Bool} (F : FnG X.prog X.w M X.base j f fd ps m) (hj : j ≤ k) (g : GX M k X) (hCl : Cls M.K C) (hMe : Meth M.K C mn f) (hC : M.fa c = some C) (hb : Bnd M fd ps (n + 1) ks pm dd) (ho : SE M W X o mo)
    (ha : SA M W X es ml) (hkw : SK M W X kws mk)
    (hst : starEach es X.env = es.map fun e => (false, eval e X.env)) (hks : kws.map (·.arg) = ks.map some)
    (ht : eval (.Call (.Attribute o mn apos) es kws pos) X.env = (do
      let ov ← eval o X.env
      standAt apos.atName
      let (f, first) ← holding [ov] (getMethod ov mn pl)
      callWith pos f first (backTo pos (starEach es X.env)) (backToKw pos (keywordEach kws X.env)))) :
    SE M W X (.Call (.Attribute o mn apos) es kws pos) (eMeth c mn m n ks.length pm dd mo ml mk) := by
  obtain ⟨t, a1, a2⟩ := ha
  obtain ⟨u, b1, b2⟩ := hkw
  obtain ⟨to, o1, o2⟩ := ho
  have hr := g.room.mono hj
  have Cl1 : Cls X.K C := by rw [g.K]; exact hCl
  have Me1 : Meth X.K C mn f := by rw [g.K]; exact hMe
  -- the shapes
  have ek : keywordEach kws X.env = kws.map fun q => (q.arg, eval q.value X.env) := by
    clear hks b1 b2 ht
    induction kws with
    | nil => rfl
    | cons q r ih => obtain ⟨a, v, pp⟩ := q; unfold keywordEach; rw [ih]; rfl
  have fk : (backToKw pos (keywordEach kws X.env)).filterMap (·.1) = ks := by
    rw [ek]; unfold backToKw; rw [List.map_map, List.filterMap_map]
    have : (kws.filterMap fun q => q.arg) = (kws.map (·.arg)).filterMap (fun o => o) := by rw [List.filterMap_map]; rfl
    show (kws.filterMap fun q => q.arg) = ks
    rw [this, hks, List.filterMap_map]
    exact List.filterMap_some
  have hall : (backToKw pos (keywordEach kws X.env)).all (·.1.isSome) = true := by
    rw [ek]; unfold backToKw
    rw [List.map_map, List.all_map]
    rw [List.all_eq_true]
    intro q hq
    have : q.arg ∈ kws.map (·.arg) := List.mem_map.mpr ⟨q, hq, rfl⟩
    rw [hks] at this
    obtain ⟨y, _, e⟩ := List.mem_map.mp this
    show q.arg.isSome = true
    rw [← e]; rfl
  have hnone : (backToKw pos (keywordEach kws X.env)).any (·.1.isNone) = false := by
    rw [List.any_eq_false]
    intro q hq
    have := List.all_eq_true.mp hall q hq
    cases e : q.1 with
    | none => rw [e] at this; cases this
    | some _ => simp
  have hst' : ∀ l : List Expr, starEach l X.env = (l.map fun e => (false, eval e X.env)) → (backTo pos (starEach l X.env)).any (·.1) = false := fun l e => by
    rw [e]; unfold backTo; rw [List.map_map, List.any_map, List.any_eq_false]; intro q _; simp
  refine ⟨fun σ H Q => to σ H fun vx H0 => ∃ a dx fs, vx = .ref a ∧ H0 a = some (.ins C dx fs) ∧ fs.lookup mn = none ∧ t σ H0 fun vs H1 => u σ H1 fun zs H2 => ∃ w fr env G d0 ds es', RS M w fr env G σ H2 ∧ DV M w d0 (.ref a) ∧ DVs M w ds vs ∧ DVs M w es' zs ∧ ds.length = n ∧ es'.length = ks.length ∧ Post M W fr env σ w (PE' M Q) (noX (m (permL pm (d0 :: ds ++ es' ++ dd)) G)), ⟨fun pins s σ H Q I h => ?_⟩, fun w fr env G σ H Q rs h => ?_⟩
  · refine PySem.W.methodCall_KW (pl := pl) (thn (o1.run pins s σ H _ I h) fun uo s0 ⟨vx, H0, I0, rx, a, dx, fs, ex, ea, ln, h⟩ => ?_) ht
    subst ex
    obtain rfl : uo = Value.ref a := rx
    refine getmeth_ok I0 ea Cl1 Me1 ln ?_
    cases es with
    | nil =>
      refine PySem.W.callWith_KW0 (h₀ := X.base) I.ok.mod.kin Me1.kp hall ?_ (by rw [hnone]; rfl)
      have h0 : wpAny (model X.prog X.w) X.A (pure [] : Sem (List Value)) _ X.xe s0 := a1.run pos pins s0 σ H0 _ I0 h
      have h1 := wpAny_bind (m := (pure [] : Sem (List Value))) (f := fun us => evalAll ((backToKw pos (keywordEach kws X.env)).map (·.2)) >>= fun ws => pure (us, ws)) (Q := fun (p : List Value × List Value) s2 => X.K.In s2.heap ∧ wpAny (model X.prog X.w) X.A (call (.ref f) (.ref a :: p.1) (ks.zip p.2)) (EP X pins σ Q) X.xe s2)
        (thn h0 fun us s1 ⟨vs, H1, I1, r, q⟩ => wpAny_bind (thn (b1.run pos pins s1 σ H1 _ I1 q) fun ws s2 ⟨zs, H2, I2, rz, w, fr, env, G, d0, ds, es', rs, dd0, d1, d2, l1, l2, h⟩ => wpAny_pure ⟨I2.kIn, run_G F hr g hb I2 (us := .ref a :: us) (vs := .ref a :: vs) (.cons rfl r) rz (by simp [l1]) l2 rs (.cons dd0 d1) d2 h⟩))
      rw [pure_bind] at h1
      rw [fk]
      exact wpAny_of_bind_pure h1
    | cons e er =>
      have he : starEach (e :: er) X.env = (false, eval e X.env) :: starEach er X.env := by
        have : starEach er X.env = er.map fun e => (false, eval e X.env) := by
          cases e <;> first | exact (List.cons.inj hst).2 | (exfalso; have := (List.cons.inj hst).1; cases (Prod.mk.inj this).1)
        rw [this]; exact hst
      refine PySem.W.callWith_KW (first := [.ref a]) (h₀ := X.base) I.ok.mod.kin Me1.kp hall (thn (a1.run pos pins s0 σ H0 _ I0 h) fun us s1 ⟨vs, H1, I1, r, q⟩ => ?_) (by rw [hst' _ hst, hnone]; rfl) he
      refine thn (b1.run pos pins s1 σ H1 _ I1 q) fun ws s2 ⟨zs, H2, I2, rz, w, fr, env, G, d0, ds, es', rs, dd0, d1, d2, l1, l2, h⟩ => ⟨I2.kIn, ?_⟩
      rw [fk]
      exact run_G F hr g hb I2 (us := .ref a :: us) (vs := .ref a :: vs) (.cons rfl r) rz (by simp [l1]) l2 rs (.cons dd0 d1) d2 h
  · refine o2 w fr env G σ H _ rs ((Post.bind h).imp fun x w0 G0 H0 l0 r0 h0 vx dx => ?_)
    by_cases hi : isInsOk c mn x G0 = true
    · rw [if_pos hi] at h0
      obtain ⟨a, da, fs, rfl, ea, ln⟩ := isInsOk_of hC r0 dx hi
      refine ⟨a, da, fs, rfl, ea, ln, ?_⟩
      refine a2 w0 fr env G0 σ H0 _ r0 ((Post.bind h0).imp fun ds w1 G1 H1 l1 r1 h1 vs d1 => ?_)
      refine b2 w1 fr env G1 σ H1 _ r1 ((Post.bind h1).imp fun es' w2 G2 H2 l2 r2 h2 zs d2 => ?_)
      by_cases hl : ds.length = n ∧ es'.length = ks.length
      · rw [if_pos hl] at h2
        exact ⟨w2, fr, env, G2, x, ds, es', r2, (dx.up l1).up l2, d1.up l2, d2, hl.1, hl.2, h2⟩
      · rw [if_neg hl] at h2; exact h2.elim
    · rw [if_neg hi] at h0; exact h0.elim
end
end GL
/-! GL part 46: classes, wrapped. -/
namespace GL
open PySem L2 PyProof.Rows
structure CFd (c : Cn) (cid : Nat) (f : Str) : Prop where
  ex : ∃ Ca, ClsF c.M cid f Ca
/-- a class x made in one of its shapes -/
structure CMk (c : Cn) (x : Str) (cid : Nat) (m : FM) (n : Nat) (ks : List Str) (pm : List Nat) (dd : List D) : Prop where
  ex : ∃ f fd ps C j, FnG c.P c.wo c.M c.base j f fd ps m ∧ j + 1 ≤ c.k ∧ Mk c.M.K C f ∧ c.M.fa cid = some C ∧ Bnd c.M fd ps (n + 1) ks pm dd ∧ c.M.mg x = some (.ref C)
/-- a method mn of the class in one of its shapes -/
structure CMe (c : Cn) (cid : Nat) (mn : Str) (m : FM) (n : Nat) (ks : List Str) (pm : List Nat) (dd : List D) : Prop where
  ex : ∃ f fd ps C, FnG c.P c.wo c.M c.base c.k f fd ps m ∧ Cls c.M.K C ∧ Meth c.M.K C mn f ∧ c.M.fa cid = some C ∧ Bnd c.M fd ps (n + 1) ks pm dd
section
variable {c : Cn} {W : XW} {N : List Str} {sc : Scope} {fnf : Str → Bool} {X : Cx} {a b e o' : Expr} {es : List Expr} {ma mb mo : ME} {ml mk : ML} {pos p apos : Pos} {x f mn : Str} {cid n : Nat} {m : FM} {ks : List Str} {pm : List Nat} {dd : List D} {kws : List Keyword}
theorem w_fld (o : OkX c N sc fnf X) (F : CFd c cid f) (ha : SE c.M W X a ma) (hb : attributeBase a f X.env (eval a X.env) = eval a X.env) : SE c.M W X (.Attribute a f pos) (eFld cid f ma) := by
  obtain ⟨Ca, h⟩ := F.ex
  exact se_fld o.g h ha hb
theorem w_setFld (o : OkX c N sc fnf X) (F : CFd c cid f) (ho : SE c.M W X o' mo) (ha : SE c.M W X a ma) (hs : swapsWith a (some (.Attribute o' f p)) pos.line X.env = pure false) : SS c.M W X (.Assign [.Attribute o' f p] a pos) (sFldS cid f ma mo) := by
  obtain ⟨Ca, h⟩ := F.ex
  exact ss_fld o.g h ho ha hs
theorem w_make (o : OkX c N sc fnf X) (F : CMk c x cid m n ks pm dd) (h : chkG sc x = true) (ha : SA c.M W X es ml) (hk : SK c.M W X kws mk)
    (hst : starEach es X.env = es.map fun e => (false, eval e X.env)) (hks : kws.map (·.arg) = ks.map some) : SE c.M W X (.Call (.Name x p) es kws pos) (eMake cid m n ks.length pm dd ml mk) := by
  obtain ⟨f, fd, ps, C, j, F, hj, mk0, hC, hb, hm⟩ := F.ex
  exact se_make (by rw [o.p, o.w, o.b]; exact F) hj o.g mk0 hC hb (chkG_gl o h).1 hm ha hk (chkG_gl o h).2.1 hst hks
theorem w_meth {pl : Sem Bool} (o : OkX c N sc fnf X) (F : CMe c cid mn m n ks pm dd) (ho : SE c.M W X o' mo) (ha : SA c.M W X es ml) (hk : SK c.M W X kws mk)
    (hst : starEach es X.env = es.map fun e => (false, eval e X.env)) (hks : kws.map (·.arg) = ks.map some)
    (ht : eval (.Call (.Attribute o' mn apos) es kws pos) X.env = (do
      let ov ← eval o' X.env
      standAt apos.atName
      let (f, first) ← holding [ov] (getMethod ov mn pl)
      callWith pos f first (backTo pos (starEach es X.env)) (backToKw pos (keywordEach kws X.env)))) : SE c.M W X (.Call (.Attribute o' mn apos) es kws pos) (eMeth cid mn m n ks.length pm dd mo ml mk) := by
  obtain ⟨f, fd, ps, C, F, hCl, hMe, hC, hb⟩ := F.ex
  exact se_meth (by rw [o.p, o.w, o.b]; exact F) (Nat.le_refl _) o.g hCl hMe hC hb ho ha hk hst hks ht
end
section
variable {c n nk : Nat} {f mn : Str} {a o v : ME} {l lk : ML} {m : FM} {pm : List Nat} {dd : List D} {env : Env'} {g : Gh}
@[simp] theorem eFld_ap : eFld c f a env g = (a env g).bind fun x g1 => match x with
  | .loc n => match g1[n]? with
    | some (.ins c' fs) => if c' = c then (match fs.lookup f with | some d => .ok d g1 | none => .bad) else .bad
    | _ => .bad
  | _ => .bad := rfl
@[simp] theorem sFldS_ap : sFldS c f v o env g = (v env g).bindS fun y g1 => (o env g1).bindS fun x g2 => match x with
  | .loc n => match g2[n]? with
    | some (.ins c' fs) => if c' = c ∧ fs.length < 1000 then .nx env (g2.set n (.ins c (putD f y fs))) else .bad
    | _ => .bad
  | _ => .bad := rfl
@[simp] theorem eMake_ap : eMake c m n nk pm dd l lk env g = (l env g).bind fun ds g1 => (lk env g1).bind fun es g2 => if ds.length = n ∧ es.length = nk then makeR c m (fun x => permL pm (x :: ds ++ es ++ dd)) g2 else .bad := rfl
@[simp] theorem eMeth_ap : eMeth c mn m n nk pm dd o l lk env g = (o env g).bind fun x g0 => if isInsOk c mn x g0 then (l env g0).bind fun ds g1 => (lk env g1).bind fun es g2 => if ds.length = n ∧ es.length = nk then noX (m (permL pm (x :: ds ++ es ++ dd)) g2) else .bad else .bad := rfl
end
end GL
/-! GL part 62: mutable lists by their place: append, reverse, unpacked; defs within classes. -/
namespace GL
open PySem L2 PyProof.Rows
def inCls (s : Stmt) (j : Nat) : Stmt := match s with
  | .ClassDef _ _ _ b _ _ _ _ _ _ _ => b.getD j (.Pass ⟨0, 0, 0, 0⟩)
  | _ => .Pass ⟨0, 0, 0, 0⟩
def sLocApp (o a : ME) : MS := fun env g => (o env g).bindS fun x g1 => match x with
  | .loc n => match g1[n]? with
    | some (.lst _) => (a env g1).bindS fun d g2 => match g2[n]? with
      | some (.lst xs) => if xs.length < LIM then .nx env (g2.set n (.lst (xs ++ [d]))) else .bad
      | _ => .bad
    | _ => .bad
  | _ => .bad
def sLocRev (o : ME) : MS := fun env g => (o env g).bindS fun x g1 => match x with
  | .loc n => match g1[n]? with
    | some (.lst xs) => .nx env (g1.set n (.lst xs.reverse))
    | _ => .bad
  | _ => .bad
def sAsgD (a : ME) (tg : MG) : MS := fun env g => (a env g).bindS fun d g1 => optS (tg (deref g1 d) env) g1
/-- a target that takes what stands in the heap -/
def SGD (M : Im) (X : Cx) (tg : Expr) (ts : List Nat) (m : MG) : Prop := ∃ t, PG X tg t ∧ ∀ w fr env G σ H Q d v, RS M w fr env G σ H → DH M w H d v → PostG M fr w G σ ts Q (m d env) → t v σ H Q
section
variable {M : Im} {W : XW} {X : Cx} {k : Nat} {a o : Expr} {ma mo : ME} {pos apos cpos p : Pos}
theorem ss_locApp (g : GX M k X) (ho : SE M W X o mo) (ha : SE M W X a ma) (hst : starEach [a] X.env = [(false, eval a X.env)]) (hbase : attributeBase o "append" X.env (eval o X.env) = eval o X.env) (hline : (apos.endLine == cpos.line) = true) :
    SS M W X (.Expr (.Call (.Attribute o "append" apos) [a] [] cpos) pos) (sLocApp mo ma) := by
  obtain ⟨t, a1, a2⟩ := ha
  obtain ⟨u, b1, b2⟩ := ho
  have hs' : starEach (a :: []) X.env = (false, eval a X.env) :: starEach [] X.env := hst
  refine ⟨_, ps_expr (pe_bm PySem.F.plainAttrs_list PySem.F.slot_list_append PySem.F.type_list_append mt_append b1 (pa_cons a1 pa_nil hs') hbase (by rw [hst]; rfl) hline hs' rfl) rfl, fun w fr env G σ H D r h => ?_⟩
  refine b2 w fr env G σ H _ r ((PostS.bind h).imp fun x w1 G1 H1 l1 r1 h1 vx dx => ?_)
  cases dx <;> try exact h1.elim
  rename_i nn q hq
  simp only at h1
  cases e : G1[nn]? with
  | none => rw [e] at h1; exact h1.elim
  | some ob =>
    rw [e] at h1
    cases ob with
    | ins c fs => exact h1.elim
    | dct kvs => exact h1.elim
    | lst xs0 =>
      obtain ⟨q', ho, e1, e2, e3⟩ := r1.obj e
      rw [hq] at e1; cases e1
      cases e3 with
      | lst e3 =>
        refine ⟨.inl ⟨rfl, _, .inl (.inl e2)⟩, ?_⟩
        refine a2 w1 fr env G1 σ H1 _ r1 ((PostS.bind h1).imp fun d w2 G2 H2 l2 r2 h2 vd dd => ?_)
        cases f : G2[nn]? with
        | none => rw [f] at h2; exact h2.elim
        | some ob2 =>
          rw [f] at h2
          cases ob2 with
          | ins c fs => exact h2.elim
          | dct kvs => exact h2.elim
          | lst xs =>
            obtain ⟨q2, ho2, f1, f2, f3⟩ := r2.obj f
            rw [l2.r _ _ hq] at f1; cases f1
            cases f3 with
            | lst f3 =>
              simp only at h2
              by_cases hz : xs.length < LIM
              · rw [if_pos hz] at h2
                refine ⟨q, _, vd, rfl, rfl, f2, by rw [← f3.length]; exact lim_lt hz, ?_⟩
                exact h2 w2 σ _ (Wd.Le.refl w2) (r2.setObj (l2.r _ _ hq) (.lst (f3.append (.cons dd .nil))))
              · rw [if_neg hz] at h2; exact h2.elim
theorem ss_locRev (g : GX M k X) (ho : SE M W X o mo) (hbase : attributeBase o "reverse" X.env (eval o X.env) = eval o X.env) (hline : (apos.endLine == cpos.line) = true) :
    SS M W X (.Expr (.Call (.Attribute o "reverse" apos) [] [] cpos) pos) (sLocRev mo) := by
  obtain ⟨u, b1, b2⟩ := ho
  refine ⟨_, ps_expr (pe_bm0 PySem.F.plainAttrs_list PySem.F.slot_list_reverse PySem.F.type_list_reverse mt_reverse b1 hbase hline) rfl, fun w fr env G σ H D r h => ?_⟩
  refine b2 w fr env G σ H _ r ((PostS.bind h).imp fun x w1 G1 H1 l1 r1 h1 vx dx => ?_)
  cases dx <;> try exact h1.elim
  rename_i nn q hq
  simp only at h1
  cases e : G1[nn]? with
  | none => rw [e] at h1; exact h1.elim
  | some ob =>
    rw [e] at h1
    cases ob with
    | ins c fs => exact h1.elim
    | dct kvs => exact h1.elim
    | lst xs =>
      obtain ⟨q', ho, e1, e2, e3⟩ := r1.obj e
      rw [hq] at e1; cases e1
      cases e3 with
      | lst e3 =>
        refine ⟨.inl ⟨rfl, _, .inl (.inl e2)⟩, q, _, rfl, rfl, e2, ?_⟩
        exact h1 w1 σ _ (Wd.Le.refl w1) (r1.setObj hq (.lst e3.reverse))
theorem its_DH {w : Wd} {H : Hp} {d : D} {v : V} {xs : List D} (hc : ∀ a o, w.C a = some o → H a = some o) (h : DH M w H d v) (e : itsD d = some xs) : ∃ a vs, v = .ref a ∧ SqA M.K H a vs ∧ DVs M w xs vs := by
  cases d <;> try cases e
  · obtain ⟨a, us, rfl, hs, hd⟩ := h.tup
    exact ⟨a, us, rfl, .inl (SqT.mono hc hs), hd⟩
  · obtain ⟨a, us, rfl, hs, hd⟩ := h.list
    exact ⟨a, us, rfl, .inr (.inl (.inl hs)), hd⟩
theorem sgd_seq (g : GX M k X) {es : List Expr} {kk n : Nat} {m : MGs} {ts : List Nat} (h : SGs M X es ts m) (hn : (assignEach es X.env).length = n) (hst : (assignEach es X.env).findIdx? (·.1) = none) : SGD M X (.Tuple es kk pos) ts (gSq n m) := by
  obtain ⟨t, a1, a2⟩ := h
  refine ⟨_, pg_seq g.calm a1 hn hst, fun w fr env G σ H Q d v r hd h => ?_⟩
  unfold gSq at h
  cases e : itsD d with
  | none => rw [e] at h; exact h.elim
  | some xs =>
    rw [e] at h
    obtain ⟨a, vs, rfl, q1, q2⟩ := its_DH r.cold hd e
    by_cases hl : xs.length = n
    · simp only [hl, if_true] at h
      exact ⟨a, vs, rfl, by rw [g.K]; exact q1, by rw [← q2.length]; exact hl, a2 w fr env G σ H Q xs vs r q2 h⟩
    · simp only [hl, if_false] at h; exact h.elim
theorem ss_asgD {tg : Expr} {mg : MG} {ts : List Nat} (ha : SE M W X a ma) (hg : SGD M X tg ts mg) (hs : swapsWithSole [tg] a pos.line X.env = pure false) (hw : swappedStores [tg] a X.env = pure none) (h1 : (assignEach [tg] X.env).map (·.2) = [assign tg X.env]) :
    SS M W X (.Assign [tg] a pos) (sAsgD ma mg) := by
  obtain ⟨t, a1, a2⟩ := ha
  obtain ⟨u, b1, b2⟩ := hg
  refine ⟨_, ps_asg a1 b1 hs hw h1, fun w fr env G σ H D r h => ?_⟩
  refine a2 w fr env G σ H _ r ((PostS.bind h).imp fun d w1 G1 H1 l1 r1 h1 v dv => ?_)
  refine b2 w1 fr env G1 σ H1 _ (deref G1 d) v r1 (DH.of r1 dv) ?_
  cases e : mg (deref G1 d) env with
  | none => rw [e] at h1; exact h1.elim
  | some env1 => rw [e] at h1; exact fun w' σ' H' l r' _ => h1 w' σ' H' l r'
end
section
variable {c : Cn} {W : XW} {N : List Str} {sc : Scope} {fnf : Str → Bool} {X : Cx} {a o' : Expr} {ma mo : ME} {pos apos cpos p : Pos}
theorem w_locApp (o : OkX c N sc fnf X) (ho : SE c.M W X o' mo) (ha : SE c.M W X a ma) (hst : starEach [a] X.env = [(false, eval a X.env)]) (hbase : attributeBase o' "append" X.env (eval o' X.env) = eval o' X.env) (hline : (apos.endLine == cpos.line) = true) :
    SS c.M W X (.Expr (.Call (.Attribute o' "append" apos) [a] [] cpos) pos) (sLocApp mo ma) := ss_locApp o.g ho ha hst hbase hline
theorem w_locRev (o : OkX c N sc fnf X) (ho : SE c.M W X o' mo) (hbase : attributeBase o' "reverse" X.env (eval o' X.env) = eval o' X.env) (hline : (apos.endLine == cpos.line) = true) :
    SS c.M W X (.Expr (.Call (.Attribute o' "reverse" apos) [] [] cpos) pos) (sLocRev mo) := ss_locRev o.g ho hbase hline
theorem w_seqD (o : OkX c N sc fnf X) {es : List Expr} {kk n : Nat} {m : MGs} {ts : List Nat} (h : SGs c.M X es ts m) (hn : (assignEach es X.env).length = n) (hst : (assignEach es X.env).findIdx? (·.1) = none) : SGD c.M X (.Tuple es kk pos) ts (gSq n m) := sgd_seq o.g h hn hst
end
section
variable {env : Env'} {g : Gh} {o a : ME} {tg : MG}
@[simp] theorem sLocApp_ap : sLocApp o a env g = (o env g).bindS fun x g1 => match x with
  | .loc n => match g1[n]? with
    | some (.lst _) => (a env g1).bindS fun d g2 => match g2[n]? with
      | some (.lst xs) => if xs.length < LIM then .nx env (g2.set n (.lst (xs ++ [d]))) else .bad
      | _ => .bad
    | _ => .bad
  | _ => .bad := rfl
@[simp] theorem sLocRev_ap : sLocRev o env g = (o env g).bindS fun x g1 => match x with
  | .loc n => match g1[n]? with
    | some (.lst xs) => .nx env (g1.set n (.lst xs.reverse))
    | _ => .bad
  | _ => .bad := rfl
@[simp] theorem sAsgD_ap : sAsgD a tg env g = (a env g).bindS fun d g1 => optS (tg (deref g1 d) env) g1 := rfl
end
end GL
/-! GL part 15: zip of two lists or tuples, strict or not. -/
namespace GL
open PySem L2 PyProof.Rows
namespace Z
/-- an iterator over a tuple (true) or a list -/
def IsIt (h : Heap) : Bool → Addr → Addr → Nat → Prop
  | true, it, l, i => h.IsTupleIter it l i
  | false, it, l, i => h.IsListIter it l i
def IsSq (h : Heap) : Bool → Addr → Array Value → Prop
  | true, l, xs => h.IsTuple l xs
  | false, l, xs => h.IsList l xs
section
variable {prog : Program} {w : World} {A : Around} {E : Value → Shared → Prop} {s : Shared}
theorem IsIt.at {h h' : Heap} {b : Bool} {it l : Addr} {i : Nat} (x : IsIt h b it l i) (e : ∀ o, h.get? it = some o → h'.get? it = some o) : IsIt h' b it l i := by
  cases b with
  | true => exact Heap.IsTupleIter.at x e
  | false => exact Heap.IsListIter.at x e
theorem IsSq.at {h h' : Heap} {b : Bool} {l : Addr} {xs : Array Value} (x : IsSq h b l xs) (e : ∀ o, h.get? l = some o → h'.get? l = some o) : IsSq h' b l xs := by
  cases b with
  | true => exact Heap.IsTuple.at x e
  | false => exact Heap.IsList.at x e
theorem IsIt.live {h : Heap} {b : Bool} {it l : Addr} {i : Nat} (x : IsIt h b it l i) : ∃ o, h.get? it = some o ∧ ∀ v, o.data ≠ .cell v := by
  cases b with
  | true => obtain ⟨o, e, _, d⟩ := x; exact ⟨o, e, fun v q => by rw [d] at q; cases q⟩
  | false => obtain ⟨o, e, _, d⟩ := x; exact ⟨o, e, fun v q => by rw [d] at q; cases q⟩
theorem nx_item {b : Bool} {it l : Addr} {i : Nat} {items : Array Value} {x : Value} {Q : Value → Shared → Prop} (hit : IsIt s.heap b it l i) (hl : IsSq s.heap b l items) (hx : items[i]? = some x)
    (hQ : ∀ h', IsIt h' b it l (i + 1) → Heap.SameBut it s.heap h' → Q x { s with heap := h' }) : wpAny (model prog w) A (Builtin.SmallTypes.nextOf (.ref it)) Q E s := by
  cases b with
  | true => exact wpAny_nextOf_tuple_item hit hl hx hQ
  | false => exact wpAny_nextOf_list_item hit hl hx hQ
theorem nx_end {b : Bool} {it l : Addr} {i : Nat} {items : Array Value} {Q : Value → Shared → Prop} (hh : A.handled = none) (hit : IsIt s.heap b it l i) (hl : IsSq s.heap b l items) (hx : items[i]? = none)
    (hE : ∀ h' e, Heap.ExtBut it s.heap h' → (∃ o, h'.get? e = some o ∧ o.cls = .type "StopIteration") → E (.ref e) { s with heap := h' }) : wpAny (model prog w) A (Builtin.SmallTypes.nextOf (.ref it)) Q E s := by
  cases b with
  | true => exact wpAny_nextOf_tuple_end hh hit hl hx hE
  | false => exact wpAny_nextOf_list_end hh hit hl hx hE
theorem noe_item {b : Bool} {it l : Addr} {i : Nat} {items : Array Value} {x : Value} {Q : Option Value → Shared → Prop} (hit : IsIt s.heap b it l i) (hl : IsSq s.heap b l items) (hx : items[i]? = some x)
    (hQ : ∀ h', IsIt h' b it l (i + 1) → Heap.SameBut it s.heap h' → Q (some x) { s with heap := h' }) : wpAny (model prog w) A (Builtin.SmallTypes.nextOrEnd (.ref it)) Q E s := by
  unfold Builtin.SmallTypes.nextOrEnd
  exact wpAny_bind (wpAny_attempt (nx_item hit hl hx fun h' a c => wpAny_pure (hQ h' a c)))
theorem noe_end {b : Bool} {it l : Addr} {i : Nat} {items : Array Value} {Q : Option Value → Shared → Prop} (hh : A.handled = none) (hit : IsIt s.heap b it l i) (hl : IsSq s.heap b l items) (hx : items[i]? = none)
    (hQ : ∀ h', Heap.ExtBut it s.heap h' → Q none { s with heap := h' }) : wpAny (model prog w) A (Builtin.SmallTypes.nextOrEnd (.ref it)) Q E s := by
  unfold Builtin.SmallTypes.nextOrEnd
  refine wpAny_bind (wpAny_attempt (nx_end hh hit hl hx fun h' e x he => ?_))
  obtain ⟨o, ho, hc⟩ := he
  refine wpAny_bind (wpAny_isInstance (T := "StopIteration") (b := true) ⟨o, ho, hc⟩ isSubtype_stop ?_)
  exact wpAny_pure (hQ _ x)
theorem stop_raise {α : Type} {Q : α → Shared → Prop} (hh : A.handled = none) (hE : ∀ h' e, (∀ c o, s.heap.get? c = some o → h'.get? c = some o) → (∃ o, h'.get? e = some o ∧ o.cls = .type "StopIteration") → E (.ref e) { s with heap := h' }) : wpAny (model prog w) A (Builtin.SmallTypes.stopIteration : Sem α) Q E s := by
  unfold Builtin.SmallTypes.stopIteration
  refine wpAny_bind ?_
  simp only [newExc, newTuple]
  refine wpAny_bind (wpAny_newObj_type ?_ (by size_fits))
  refine wpAny_bind (m := firstArgMember _ _) (wpAny_of_eq (a := Value.none) (by first | rfl | (simp only [firstArgMember]; rfl)) ?_)
  refine wpAny_newObj_type ?_ (by size_fits)
  simp only [raiseNew]
  refine wpAny_bind (wpAny_handled ?_)
  first | rw [show A.in1.handled = none from hh] | rw [hh]
  refine wpAny_bind (wpAny_pure (wpAny_throw ?_))
  exact hE _ _ (fun c o e => Heap.get?_push_of_some _ (Heap.get?_push_of_some _ e)) ⟨_, Heap.get?_push_size _ rfl, rfl⟩

abbrev IsZs (h : Heap) (z TI TO : Addr) (f0 : Value) : Prop :=
  h.get? z = some { cls := .type "zip", dict := none, data := .fields #[f0, .bool false, .bool true, .ref TI, .ref TO], slots := #[] }
theorem zs_item {b1 b2 : Bool} {z TI TO i1 i2 l1 l2 : Addr} {k1 k2 : Nat} {xs ys : Array Value} {x y a b : Value} {Q : Value → Shared → Prop} (D : ZipApart z TI TO i1 i2 l1 l2)
    (hz : IsZs s.heap z TI TO .none) (hTI : IsPair s.heap TI (.ref i1) (.ref i2)) (hTO : IsPair s.heap TO a b)
    (h1 : IsIt s.heap b1 i1 l1 k1) (h2 : IsIt s.heap b2 i2 l2 k2) (hl1 : IsSq s.heap b1 l1 xs) (hl2 : IsSq s.heap b2 l2 ys) (hx : xs[k1]? = some x) (hy : ys[k2]? = some y)
    (hQ : ∀ h', IsZs h' z TI TO (rawInt s.heap.objs.size) → IsPair h' TO x y → IsIt h' b1 i1 l1 (k1 + 1) → IsIt h' b2 i2 l2 (k2 + 1) → IsPair h' s.heap.objs.size x y → h'.objs.size = s.heap.objs.size + 1 →
      (∀ c o, c ≠ z → c ≠ TO → c ≠ i1 → c ≠ i2 → s.heap.get? c = some o → h'.get? c = some o) → Q (.ref s.heap.objs.size) { s with heap := h' }) :
    wpAny (model prog w) A (Builtin.«zip.__next__» ⟨[.ref z], []⟩) (fun fin s' => ∃ v, fin = .done (.ret v) ∧ Q v s') E s := by
  show wpAny _ _ (field (.ref z) 2 >>= _) _ _ _
  refine wpAny_bind (wpAny_field hz rfl (x := .bool true) rfl ?_)
  show wpAny _ _ (field (.ref z) 3 >>= _) _ _ _
  refine wpAny_bind (wpAny_field hz rfl (x := .ref TI) rfl ?_)
  refine wpAny_bind (wpAny_seqItems hTI rfl ?_)
  show wpAny _ _ (Builtin.SmallTypes.ownedTupleIsFree (.ref z) >>= _) _ _ _
  refine wpAny_bind ?_
  unfold Builtin.SmallTypes.ownedTupleIsFree
  refine wpAny_bind (wpAny_field hz rfl (x := .none) rfl (wpAny_pure ?_))
  simp only [if_true]
  refine wpAny_bind (wpAny_rule ?_)
  refine wpAny_bind (wpAny_field hz rfl (x := .ref TO) rfl ?_)
  refine wpAny_bind (wpAny_setField_rec hz (by simp) fun h₁ hz₁ hs₁ => ?_)
  replace hz₁ : IsZs h₁ z TI TO .ellipsis := hz₁
  refine wpAny_bind ?_
  simp only [List.zipIdx_cons, List.zipIdx_nil, List.forIn_cons, List.forIn_nil]
  refine wpAny_bind (wpAny_bind (wpAny_onRaise ?_))
  show wpAny _ _ (Builtin.SmallTypes.nextOrEnd (.ref i1)) _ _ _
  refine noe_item (h1.at fun o e => hs₁.extBut _ o D.i1z e) (hl1.at fun o e => hs₁.extBut _ o D.l1z e) hx fun h₂ h1₂ hs₂ => ?_
  have hTO₂ : IsPair h₂ TO a b := hs₂.extBut _ _ D.TOi1 (hs₁.extBut _ _ D.TOz hTO)
  refine wpAny_bind (wpAny_seqItems hTO₂ rfl ?_)
  refine wpAny_bind (wpAny_updateSeq_pair hTO₂ fun h₃ hTO₃ hs₃ => ?_)
  replace hTO₃ : IsPair h₃ TO x b := hTO₃
  refine wpAny_bind (wpAny_letGo (wpAny_pure ?_))
  refine wpAny_bind (wpAny_bind (wpAny_onRaise ?_))
  show wpAny _ _ (Builtin.SmallTypes.nextOrEnd (.ref i2)) _ _ _
  refine noe_item (h2.at fun o e => hs₃.extBut _ o D.TOi2.symm (hs₂.extBut _ o D.i12.symm (hs₁.extBut _ o D.i2z e)))
    (hl2.at fun o e => hs₃.extBut _ o D.l2TO (hs₂.extBut _ o D.l2i1 (hs₁.extBut _ o D.l2z e))) hy fun h₄ h2₄ hs₄ => ?_
  have hTO₄ : IsPair h₄ TO x b := hs₄.extBut _ _ D.TOi2 hTO₃
  refine wpAny_bind (wpAny_seqItems hTO₄ rfl ?_)
  refine wpAny_bind (wpAny_updateSeq_pair hTO₄ fun h₅ hTO₅ hs₅ => ?_)
  replace hTO₅ : IsPair h₅ TO x y := hTO₅
  refine wpAny_bind (wpAny_letGo (wpAny_pure (wpAny_pure ?_)))
  refine wpAny_bind (wpAny_seqItems hTO₅ rfl ?_)
  refine wpAny_bind (wpAny_newTuple ?_)
  have hsz : h₅.objs.size = s.heap.objs.size := by rw [hs₅.1, hs₄.1, hs₃.1, hs₂.1, hs₁.1]
  have hz₅ : IsZs h₅ z TI TO .ellipsis := hs₅.extBut _ _ D.TOz.symm (hs₄.extBut _ _ D.i2z.symm (hs₃.extBut _ _ D.TOz.symm (hs₂.extBut _ _ D.i1z.symm hz₁)))
  have hk₅ : ∀ c o, c ≠ z → c ≠ TO → c ≠ i1 → c ≠ i2 → s.heap.get? c = some o → h₅.get? c = some o := fun c o c1 c2 c3 c4 e =>
    hs₅.extBut _ _ c2 (hs₄.extBut _ _ c4 (hs₃.extBut _ _ c2 (hs₂.extBut _ _ c3 (hs₁.extBut _ _ c1 e))))
  have h1₅ : IsIt h₅ b1 i1 l1 (k1 + 1) := h1₂.at fun o e => hs₅.extBut _ o D.TOi1.symm (hs₄.extBut _ o D.i12 (hs₃.extBut _ o D.TOi1.symm e))
  have h2₅ : IsIt h₅ b2 i2 l2 (k2 + 1) := h2₄.at fun o e => hs₅.extBut _ o D.TOi2.symm e
  have hzlt : z < h₅.objs.size := Heap.lt_size hz₅
  show wpAny _ _ (Builtin.SmallTypes.ownedTupleHandOut (.ref z) (.ref h₅.objs.size) >>= _) _ _ _
  refine wpAny_bind ?_
  unfold Builtin.SmallTypes.ownedTupleHandOut
  have hz₆ : IsZs (h₅.push { cls := .type "tuple", data := .seq #[x, y] }) z TI TO .ellipsis := Heap.get?_push_of_some _ hz₅
  refine wpAny_bind (wpAny_setField_rec hz₆ (by simp) fun h₇ hz₇ hs₇ => ?_)
  replace hz₇ : IsZs h₇ z TI TO (rawInt h₅.objs.size) := hz₇
  refine wpAny_setField_rec hz₇ (by simp) fun h₈ hz₈ hs₈ => ?_
  replace hz₈ : IsZs h₈ z TI TO (rawInt h₅.objs.size) := hz₈
  have up : ∀ c o, c ≠ z → h₅.get? c = some o → h₈.get? c = some o := fun c o c1 e => hs₈.extBut _ _ c1 (hs₇.extBut _ _ c1 (Heap.get?_push_of_some _ e))
  have hT₈ : IsPair h₈ h₅.objs.size x y := hs₈.extBut _ _ (Nat.ne_of_gt hzlt) (hs₇.extBut _ _ (Nat.ne_of_gt hzlt) (Heap.get?_push_size _ rfl))
  have hz8 : h₈.objs.size = h₅.objs.size + 1 := by rw [hs₈.1, hs₇.1, Heap.size_push]
  rw [hsz] at hz₈ hT₈ hz8
  refine wpAny_pure ⟨_, rfl, ?_⟩
  show Q (.ref h₅.objs.size) _
  rw [hsz]
  exact hQ h₈ hz₈ (up _ _ D.TOz hTO₅) (h1₅.at fun o e => up _ o D.i1z e) (h2₅.at fun o e => up _ o D.i2z e) hT₈ hz8 fun c o c1 c2 c3 c4 e => up c o c1 (hk₅ c o c1 c2 c3 c4 e)

theorem zs_end {b1 b2 : Bool} {z TI TO i1 i2 l1 l2 : Addr} {k1 k2 : Nat} {xs ys : Array Value} {a b : Value} {Q : Fin → Shared → Prop} (hh : A.handled = none) (D : ZipApart z TI TO i1 i2 l1 l2)
    (hz : IsZs s.heap z TI TO .none) (hTI : IsPair s.heap TI (.ref i1) (.ref i2)) (hTO : IsPair s.heap TO a b)
    (h1 : IsIt s.heap b1 i1 l1 k1) (h2 : IsIt s.heap b2 i2 l2 k2) (hl1 : IsSq s.heap b1 l1 xs) (hl2 : IsSq s.heap b2 l2 ys) (hx : xs[k1]? = none) (hy : ys[k2]? = none)
    (hE : ∀ h' e, (∀ c o, c ≠ z → c ≠ TO → c ≠ i1 → c ≠ i2 → s.heap.get? c = some o → h'.get? c = some o) → (∃ o, h'.get? e = some o ∧ o.cls = .type "StopIteration") → E (.ref e) { s with heap := h' }) :
    wpAny (model prog w) A (Builtin.«zip.__next__» ⟨[.ref z], []⟩) Q E s := by
  show wpAny _ _ (field (.ref z) 2 >>= _) _ _ _
  refine wpAny_bind (wpAny_field hz rfl (x := .bool true) rfl ?_)
  show wpAny _ _ (field (.ref z) 3 >>= _) _ _ _
  refine wpAny_bind (wpAny_field hz rfl (x := .ref TI) rfl ?_)
  refine wpAny_bind (wpAny_seqItems hTI rfl ?_)
  show wpAny _ _ (Builtin.SmallTypes.ownedTupleIsFree (.ref z) >>= _) _ _ _
  refine wpAny_bind ?_
  unfold Builtin.SmallTypes.ownedTupleIsFree
  refine wpAny_bind (wpAny_field hz rfl (x := .none) rfl (wpAny_pure ?_))
  simp only [if_true]
  refine wpAny_bind (wpAny_rule ?_)
  refine wpAny_bind (wpAny_field hz rfl (x := .ref TO) rfl ?_)
  refine wpAny_bind (wpAny_setField_rec hz (by simp) fun h₁ hz₁ hs₁ => ?_)
  replace hz₁ : IsZs h₁ z TI TO .ellipsis := hz₁
  refine wpAny_bind ?_
  simp only [List.zipIdx_cons, List.zipIdx_nil, List.forIn_cons, List.forIn_nil]
  refine wpAny_bind (wpAny_bind (wpAny_onRaise ?_))
  show wpAny _ _ (Builtin.SmallTypes.nextOrEnd (.ref i1)) _ _ _
  refine noe_end hh (h1.at fun o e => hs₁.extBut _ o D.i1z e) (hl1.at fun o e => hs₁.extBut _ o D.l1z e) hx fun h₂ hs₂ => ?_
  have hz₂ : IsZs h₂ z TI TO .ellipsis := hs₂ _ _ D.i1z.symm hz₁
  refine wpAny_bind (wpAny_setField_rec hz₂ (by simp) fun h₃ hz₃ hs₃ => ?_)
  refine wpAny_bind ?_
  wp_delta
  rw [if_neg (by decide)]
  simp only [List.drop_succ_cons, List.drop_zero, List.zipIdx_cons, List.zipIdx_nil, List.forIn_cons, List.forIn_nil]
  have k2 : ∀ o, s.heap.get? i2 = some o → h₃.get? i2 = some o := fun o e => hs₃.extBut _ o D.i2z (hs₂ _ o D.i12.symm (hs₁.extBut _ o D.i2z e))
  have kl2 : ∀ o, s.heap.get? l2 = some o → h₃.get? l2 = some o := fun o e => hs₃.extBut _ o D.l2z (hs₂ _ o D.l2i1 (hs₁.extBut _ o D.l2z e))
  refine wpAny_bind (wpAny_bind (wpAny_bind (noe_end hh (h2.at k2) (hl2.at kl2) hy fun h₄ hs₄ => ?_)))
  rw [if_neg (by simp)]
  refine wpAny_pure (wpAny_pure (wpAny_bind (wpAny_rule (stop_raise hh fun h' e hk he => hE h' e (fun c o c1 c2 c3 c4 q => hk _ _ (hs₄ _ _ c4 (hs₃.extBut _ _ c1 (hs₂ _ _ c3 (hs₁.extBut _ _ c1 q))))) he))))
theorem zs_pyNext_item {b1 b2 : Bool} {z TI TO i1 i2 l1 l2 : Addr} {k1 k2 : Nat} {xs ys : Array Value} {x y a b : Value} {Q : Option Value → Shared → Prop} (D : ZipApart z TI TO i1 i2 l1 l2)
    (hz : IsZs s.heap z TI TO .none) (hTI : IsPair s.heap TI (.ref i1) (.ref i2)) (hTO : IsPair s.heap TO a b)
    (h1 : IsIt s.heap b1 i1 l1 k1) (h2 : IsIt s.heap b2 i2 l2 k2) (hl1 : IsSq s.heap b1 l1 xs) (hl2 : IsSq s.heap b2 l2 ys) (hx : xs[k1]? = some x) (hy : ys[k2]? = some y)
    (hQ : ∀ h', IsZs h' z TI TO (rawInt s.heap.objs.size) → IsPair h' TO x y → IsIt h' b1 i1 l1 (k1 + 1) → IsIt h' b2 i2 l2 (k2 + 1) → IsPair h' s.heap.objs.size x y → h'.objs.size = s.heap.objs.size + 1 →
      (∀ c o, c ≠ z → c ≠ TO → c ≠ i1 → c ≠ i2 → s.heap.get? c = some o → h'.get? c = some o) → Q (some (.ref s.heap.objs.size)) { s with heap := h' }) :
    wpAny (model prog w) A (pyNext (.ref z)) Q E s := by
  have hT : s.TypeIs (.ref z) "zip" := ⟨_, hz, rfl⟩
  unfold pyNext
  exact wpAny_bind (wpAny_attempt (wpAny_callSpecial?_slot (name := Str.ofString "__next__") hT F.slot_zip_next
    (wpAny_call_entry F.slot_zip_next hT F.entry_zip_next
      (zs_item D hz hTI hTO h1 h2 hl1 hl2 hx hy fun h' a1 a2 a3 a4 a5 a6 a7 => wpAny_pure (hQ h' a1 a2 a3 a4 a5 a6 a7)) (F.args_zip_next_1 _))))
theorem zs_pyNext_end {b1 b2 : Bool} {z TI TO i1 i2 l1 l2 : Addr} {k1 k2 : Nat} {xs ys : Array Value} {a b : Value} {Q : Option Value → Shared → Prop} (hh : A.handled = none) (D : ZipApart z TI TO i1 i2 l1 l2)
    (hz : IsZs s.heap z TI TO .none) (hTI : IsPair s.heap TI (.ref i1) (.ref i2)) (hTO : IsPair s.heap TO a b)
    (h1 : IsIt s.heap b1 i1 l1 k1) (h2 : IsIt s.heap b2 i2 l2 k2) (hl1 : IsSq s.heap b1 l1 xs) (hl2 : IsSq s.heap b2 l2 ys) (hx : xs[k1]? = none) (hy : ys[k2]? = none)
    (hQ : ∀ h', (∀ c o, c ≠ z → c ≠ TO → c ≠ i1 → c ≠ i2 → s.heap.get? c = some o → h'.get? c = some o) → Q none { s with heap := h' }) : wpAny (model prog w) A (pyNext (.ref z)) Q E s := by
  have hT : s.TypeIs (.ref z) "zip" := ⟨_, hz, rfl⟩
  unfold pyNext
  refine wpAny_bind (wpAny_attempt (wpAny_callSpecial?_slot (name := Str.ofString "__next__") hT F.slot_zip_next
    (wpAny_call_entry F.slot_zip_next hT F.entry_zip_next (zs_end hh D hz hTI hTO h1 h2 hl1 hl2 hx hy fun h' e hk he => ?_) (F.args_zip_next_1 _))))
  obtain ⟨o, ho, hc⟩ := he
  refine wpAny_bind (wpAny_isInstance (T := "StopIteration") (b := true) ⟨o, ho, hc⟩ isSubtype_stop ?_)
  exact wpAny_pure (hQ _ hk)
theorem zs_letGo {elts : List Expr} {x1} {pos : Pos} {z TI TO T : Addr} {Q : Unit → Shared → Prop} (hz : IsZs s.heap z TI TO (rawInt T))
    (hQ : ∀ h', IsZs h' z TI TO .none → Heap.SameBut z s.heap h' → Q () { s with heap := h' }) :
    wpAny (model prog w) A (letOwnedTupleGo (.Tuple elts x1 pos) (.ref z) (.ref T)) Q E s := by
  unfold letOwnedTupleGo
  refine wpAny_bind (wpAny_load hz ?_)
  show wpAny _ _ (if (["enumerate", "zip", "dict_itemiterator", "dict_reverseitemiterator", "odict_iterator", "itertools.zip_longest", "itertools.pairwise"].contains "zip" &&
      (#[rawInt T, .bool false, .bool true, .ref TI, .ref TO] : Array Value)[0]? == some (rawInt T)) = true then _ else _) Q E s
  rw [if_pos (by simp)]
  refine wpAny_bind (wpAny_rule ?_)
  show wpAny _ _ (setField (.ref z) 0 .none) Q E s
  exact wpAny_setField_rec hz (by simp) fun h' hz' hs' => hQ h' hz' hs'
theorem zs_pyIter {z TI TO : Addr} {f0 : Value} {Q : Value → Shared → Prop} (hz : IsZs s.heap z TI TO f0) (h : Q (.ref z) s) : wpAny (model prog w) A (pyIter (.ref z)) Q E s := by
  have hT : s.TypeIs (.ref z) "zip" := ⟨_, hz, rfl⟩
  refine wpAny_pyIter_slot hT F.slot_zip_iter (wpAny_call_entry F.slot_zip_iter hT F.entry_zip_iter ?_ (F.args_zip_iter_1 _))
  show wpAny _ _ (ret (.ref z)) _ _ s
  exact wpAny_pure ⟨_, rfl, "zip", _, hT, F.slot_zip_next.lookup, h⟩
end
end Z
end GL
/-! GL part 15b: zip of two, strict, as a source of loops. -/
namespace GL
open PySem L2 PyProof.Rows
namespace Z
theorem typeCall_zip_s (a b c : Value) : checkTypeCall "zip" ⟨[a, b], [(Str.ofString "strict", c)]⟩ = pure () := by kernel_rfl
theorem newCall_zip_s (a b c : Value) : checkBuiltinCall "zip.__new__" ⟨[.type "zip", a, b], [(Str.ofString "strict", c)]⟩ = pure () := by kernel_rfl
theorem args_init_s (obj a b c : Value) : argsOk "object.__init__" ⟨[obj, a, b], [(Str.ofString "strict", c)]⟩ := by unfold argsOk; kernel_rfl
abbrev zS (h : Heap) (o1 o2 : Obj) : Heap := (gzO2 h o1 o2).push { cls := .type "zip", data := .fields #[.none, .bool false, .bool true, .ref ((h.push o1).push o2).objs.size, .ref (gzT2 h o1 o2).objs.size] }
theorem meets_zip_newS {v1 v2 : Value} {o1 o2 : Obj} {H1 H2 : Heap → Prop} (B1 : Begins v1 o1 H1) (B2 : Begins v2 o2 H2) :
    Meets (Builtin.«zip.__new__» ⟨[.type "zip", v1, v2], [(Str.ofString "strict", .bool true)]⟩) (fun _ R s => (H1 s.heap ∧ H2 s.heap) ∧
      R (.ok (.ret (.ref (gzO2 s.heap o1 o2).objs.size))) { s with heap := zS s.heap o1 o2 }) :=
  .of_wp fun prog w A R s h => by
    obtain ⟨hp, g, d, tk, os⟩ := s; obtain ⟨⟨h1, h2⟩, h⟩ := h
    have hsub := sub_zip
    have q1 : ∀ {A' : Around} {E : Value → Shared → Prop} {Q : Value → Shared → Prop}, Q (.ref hp.objs.size) ⟨(hp.push o1), g, d, tk, os⟩ → wpAny (model prog w) A' (pyIter v1) Q E ⟨hp, g, d, tk, os⟩ :=
      fun q => B1.iter prog w _ _ ⟨hp, g, d, tk, os⟩ _ (B1.keeps _ _ h1 fun b o' e => e) q
    have q2 : ∀ {A' : Around} {E : Value → Shared → Prop} {Q : Value → Shared → Prop}, Q (.ref (hp.push o1).objs.size) ⟨((hp.push o1).push o2), g, d, tk, os⟩ → wpAny (model prog w) A' (pyIter v2) Q E ⟨(hp.push o1), g, d, tk, os⟩ :=
      fun q => B2.iter prog w _ _ ⟨(hp.push o1), g, d, tk, os⟩ _ (B2.keeps _ _ h2 fun b o' e => (Heap.get?_push_of_some _ e)) q
    have e2 : (Str.ofString "strict" != ("strict" : Str)) = false := by decide +kernel
    wp_walk using q1, q2
    exact ⟨_, rfl, h⟩
section
variable {prog : Program} {w : World} {A : Around} {E : Value → Shared → Prop} {s : Shared}
theorem zip_beginsS {v1 v2 : Value} {o1 o2 : Obj} {H1 H2 : Heap → Prop} {Q : Value → Shared → Prop} (B1 : Begins v1 o1 H1) (B2 : Begins v2 o2 H2) (h1 : H1 s.heap) (h2 : H2 s.heap)
    (h : ∀ h', IsZs h' (s.heap.objs.size + 4) (s.heap.objs.size + 2) (s.heap.objs.size + 3) .none → IsTupOf2 h' (s.heap.objs.size + 2) (.ref s.heap.objs.size) (.ref (s.heap.objs.size + 1)) →
      IsTupOf2 h' (s.heap.objs.size + 3) .none .none → h'.get? s.heap.objs.size = some o1 → h'.get? (s.heap.objs.size + 1) = some o2 → h'.objs.size = s.heap.objs.size + 5 →
      (∀ c o, s.heap.get? c = some o → h'.get? c = some o) → Q (.ref (s.heap.objs.size + 4)) { s with heap := h' }) :
    wpAny (model prog w) A (call (.type "zip") [v1, v2] [(Str.ofString "strict", .bool true)]) Q E s := by
  refine callType_newKw F.called_zip (by decide) (typeCall_zip_s _ _ _) (newCall_zip_s _ _ _) (fun obj => args_init_s obj _ _ _) F.entry_zip_new
    (meets_zip_newS B1 B2) ⟨⟨h1, h2⟩, ?_⟩
  have z1 : (s.heap.push o1).objs.size = s.heap.objs.size + 1 := by rw [Heap.size_push]
  have z2 : ((s.heap.push o1).push o2).objs.size = s.heap.objs.size + 2 := by rw [Heap.size_push, z1]
  have zT : (gzT2 s.heap o1 o2).objs.size = s.heap.objs.size + 3 := by rw [Heap.size_push, z2]
  have zO : (gzO2 s.heap o1 o2).objs.size = s.heap.objs.size + 4 := by rw [Heap.size_push, zT]
  have zZ : (zS s.heap o1 o2).objs.size = s.heap.objs.size + 5 := by rw [Heap.size_push, zO]
  have gZ : (zS s.heap o1 o2).get? (gzO2 s.heap o1 o2).objs.size = some { cls := .type "zip", data := .fields #[.none, .bool false, .bool true, .ref ((s.heap.push o1).push o2).objs.size, .ref (gzT2 s.heap o1 o2).objs.size] } := Heap.get?_push_size _ rfl
  have gO : (zS s.heap o1 o2).get? (gzT2 s.heap o1 o2).objs.size = some { cls := .type "tuple", data := .seq #[.none, .none] } := Heap.get?_push_of_some _ (Heap.get?_push_size _ rfl)
  have gT : (zS s.heap o1 o2).get? ((s.heap.push o1).push o2).objs.size = some { cls := .type "tuple", data := .seq #[.ref s.heap.objs.size, .ref (s.heap.push o1).objs.size] } := Heap.get?_push_of_some _ (Heap.get?_push_of_some _ (Heap.get?_push_size _ rfl))
  have g1 : (zS s.heap o1 o2).get? s.heap.objs.size = some o1 := Heap.get?_push_of_some _ (Heap.get?_push_of_some _ (Heap.get?_push_of_some _ (Heap.get?_push_of_some _ (Heap.get?_push_size _ B1.free))))
  have g2 : (zS s.heap o1 o2).get? (s.heap.push o1).objs.size = some o2 := Heap.get?_push_of_some _ (Heap.get?_push_of_some _ (Heap.get?_push_of_some _ (Heap.get?_push_size _ B2.free)))
  rw [zO, zT, z2] at gZ
  rw [zT] at gO
  rw [z2, z1] at gT
  rw [z1] at g2
  show _ ∧ _
  rw [zO]
  exact ⟨⟨_, gZ, rfl⟩, h _ gZ gT gO g1 g2 zZ fun c o e => Heap.get?_push_of_some _ (Heap.get?_push_of_some _ (Heap.get?_push_of_some _ (Heap.get?_push_of_some _ (Heap.get?_push_of_some _ e))))⟩
end
/-- a tuple (true) or a list, by its items -/
def SqX (K : PySem.W.Frag) (H : Hp) : Bool → Addr → List V → Prop
  | true, a, xs => SqT K H a xs
  | false, a, xs => SqL K H a xs
def itObj : Bool → Addr → Obj
  | true, l => { cls := .type "tuple_iterator", data := .fields #[.ref l, .int 0 0] }
  | false, l => { cls := .type "list_iterator", data := .fields #[.ref l, .int 0 0] }
theorem begins_sq (b : Bool) (l : Addr) (items : Array Value) : Begins (.ref l) (itObj b l) fun h => IsSq h b l items := by
  cases b with
  | true => exact begins_tuple l items
  | false => exact begins_list l items
theorem isIt_obj {h : Heap} {b : Bool} {it l : Addr} (e : h.get? it = some (itObj b l)) : IsIt h b it l 0 := by
  cases b with
  | true => exact ⟨_, e, rfl, rfl⟩
  | false => exact ⟨_, e, rfl, rfl⟩
section
variable {X : Cx} {pins : List (Addr × Obj)} {σ : L2.St} {H : Hp} {s : Shared}
theorem sqx {b : Bool} {a : Addr} {xs : List V} (I : Inv X pins σ H s) (h : SqX X.K H b a xs) : ∃ its : List Value, Vals xs its ∧ IsSq s.heap b a its.toArray ∧ a < s.heap.objs.size := by
  cases b with
  | true =>
    obtain ⟨its, rv, p, _⟩ := I.tuple h
    obtain ⟨o, ho, _⟩ := id p
    exact ⟨its, rv, p, Heap.lt_size ho⟩
  | false =>
    obtain ⟨its, rv, p, _⟩ := I.list h
    exact ⟨its, rv, p.isList, p.lt⟩
theorem sqx_inj {b : Bool} {a : Addr} {xs ys : List V} (I : Inv X pins σ H s) (h : SqX X.K H b a xs) (h' : SqX X.K H b a ys) : xs = ys := by
  cases b with
  | true => exact I.tuple_inj h h'
  | false => exact I.list_inj h h'
end
def Itzs (K : PySem.W.Frag) (b1 : Bool) (a : Addr) (b2 : Bool) (b : Addr) : It :=
  ⟨fun i H => ∃ (xs ys : List V) (x y : V), SqX K H b1 a xs ∧ SqX K H b2 b ys ∧ xs[i]? = some x ∧ ys[i]? = some y,
    fun i H v H' => ∃ T x y, v = .ref T ∧ H T = none ∧ H' = upd H T (.tup [x, y]) ∧ (∀ xs, SqX K H b1 a xs → xs[i]? = some x) ∧ ∀ ys, SqX K H b2 b ys → ys[i]? = some y,
    fun i H => ∃ xs ys : List V, SqX K H b1 a xs ∧ SqX K H b2 b ys ∧ xs.length ≤ i ∧ ys.length ≤ i⟩
theorem turn_zs {P : Program} {w : World} {K : PySem.W.Frag} {elts : List Expr} {kk : Nat} {tpos : Pos} {b1 b2 : Bool} {a b z TI TO i1 i2 : Addr} (D : ZipApart z TI TO i1 i2 a b) :
    Turn P w K (.Tuple elts kk tpos) (Itzs K b1 a b2 b) [z, TI, TO, i1, i2] z (fun i h => IsZs h z TI TO .none ∧ IsPair h TI (.ref i1) (.ref i2) ∧ (∃ x y, IsPair h TO x y) ∧ IsIt h b1 i1 a i ∧ IsIt h b2 i2 b i) where
  mem := by simp
  obj := fun i h st c hc => by
    obtain ⟨hz, hTI, ⟨x, y, hTO⟩, h1, h2⟩ := st
    have e' : c = z ∨ c = TI ∨ c = TO ∨ c = i1 ∨ c = i2 := by simpa using hc
    rcases e' with q | q | q | q | q
    · rw [q]; exact ⟨_, hz, fun v q => nomatch q⟩
    · rw [q]; exact ⟨_, hTI, fun v q => nomatch q⟩
    · rw [q]; exact ⟨_, hTO, fun v q => nomatch q⟩
    · rw [q]; exact h1.live
    · rw [q]; exact h2.live
  keep := fun i h h' st k => by
    obtain ⟨hz, hTI, ⟨x, y, hTO⟩, h1, h2⟩ := st
    exact ⟨k z (by simp) _ hz, k TI (by simp) _ hTI, ⟨x, y, k TO (by simp) _ hTO⟩, h1.at fun o q => k i1 (by simp) o q, h2.at fun o q => k i2 (by simp) o q⟩
  item := by
    intro X hP hw hK hc i pins s σ H E I hf st hg
    subst hP hw hK
    obtain ⟨hz, hTI, ⟨x0, y0, hTO⟩, h1, h2⟩ := st
    obtain ⟨xs, ys, x, y, hqx, hqy, hx, hy⟩ := hg
    obtain ⟨its, rv, p, _⟩ := sqx I hqx
    obtain ⟨its2, rv2, p2, _⟩ := sqx I hqy
    obtain ⟨u, hu, ru⟩ := rv.get hx
    obtain ⟨u2, hu2, ru2⟩ := rv2.get hy
    have hzl : z < s.heap.objs.size := Heap.lt_size hz
    refine zs_pyNext_item D hz hTI hTO h1 h2 p p2 (x := u) (y := u2) (by simpa using hu) (by simpa using hu2) fun h' z' TO' h1' h2' hT hsz hk => ?_
    refine ⟨_, rfl, zs_letGo (s := { s with heap := h' }) z' fun h'' z'' sb => ?_⟩
    have hT2 : h''.get? s.heap.objs.size = some { cls := .type "tuple", data := .seq #[u, u2] } := (sb.2 _ (Nat.ne_of_gt hzl)).trans hT
    have new : ObjOk X.prog X.w (upd H s.heap.objs.size (.tup [x, y])) h'' s.heap.objs.size (.tup [x, y]) :=
      ⟨by show 2 ≤ sizeLine; decide, [u, u2], .cons ru (.cons ru2 .nil), ⟨_, hT2, rfl, _, rfl⟩⟩
    have I1 : Inv X pins σ (upd H s.heap.objs.size (.tup [x, y])) { s with heap := h'' } :=
      I.turnedNew (t' := s.toks) (ch := [z, TI, TO, i1, i2]) (fun c o hb q => (sb.2 c (fun q' => hb (by simp [q']))).trans (hk c o (fun q' => hb (by simp [q'])) (fun q' => hb (by simp [q'])) (fun q' => hb (by simp [q'])) (fun q' => hb (by simp [q'])) q)) hf (Nat.le_refl _) new
    refine ⟨.ref s.heap.objs.size, _, I1, rfl, ⟨_, x, y, rfl, I.hok.fresh (Nat.le_refl _), rfl, fun l hl => by rw [sqx_inj I hl hqx]; exact hx, fun l hl => by rw [sqx_inj I hl hqy]; exact hy⟩, ⟨z'', ?_, ⟨u, u2, ?_⟩, ?_, ?_⟩, fun c hcm => ?_⟩
    · exact (sb.2 _ D.TIz).trans (hk _ _ D.TIz D.TITO D.TIi1 D.TIi2 hTI)
    · exact (sb.2 _ D.TOz).trans TO'
    · exact h1'.at fun o q => (sb.2 _ D.i1z).trans q
    · exact h2'.at fun o q => (sb.2 _ D.i2z).trans q
    · have hlt : c < s.heap.objs.size := by
        have e' : c = z ∨ c = TI ∨ c = TO ∨ c = i1 ∨ c = i2 := by simpa using hcm
        rcases e' with q | q | q | q | q
        · rw [q]; exact hzl
        · rw [q]; exact Heap.lt_size hTI
        · rw [q]; exact Heap.lt_size hTO
        · rw [q]; obtain ⟨_, e1, _⟩ := h1.live; exact Heap.lt_size e1
        · rw [q]; obtain ⟨_, e2, _⟩ := h2.live; exact Heap.lt_size e2
      rw [upd_ne (Nat.ne_of_lt hlt)]
      exact (hf c hcm).1
  done := by
    intro X hP hw hK hc i pins s σ H E I hf st hg
    subst hP hw hK
    obtain ⟨hz, hTI, ⟨x0, y0, hTO⟩, h1, h2⟩ := st
    obtain ⟨xs, ys, hqx, hqy, hend, hend2⟩ := hg
    obtain ⟨its, rv, p, _⟩ := sqx I hqx
    obtain ⟨its2, rv2, p2, _⟩ := sqx I hqy
    have l1 := rv.length
    have l2 := rv2.length
    exact zs_pyNext_end (I.ok.hd hc) D hz hTI hTO h1 h2 p p2 (by simp; omega) (by simp; omega) fun h' hk => ⟨rfl, I.turnedL (t' := s.toks) (ch := [z, TI, TO, i1, i2]) (fun c o hb q =>
      hk c o (fun q' => hb (by simp [q'])) (fun q' => hb (by simp [q'])) (fun q' => hb (by simp [q'])) (fun q' => hb (by simp [q'])) q) hf⟩
  self := fun A i s Q E st h => zs_pyIter st.1 h
end Z
end GL
/-! GL part 15c: for .. in zip(a, b, strict=True). -/
namespace GL
open PySem L2 PyProof.Rows
namespace Z
/-! ### a call of a built-in class with keywords -/
theorem callWith_tyKw {M : Model} {A : Around} {E : Value → Shared → Prop} {s : Shared} {env : Env} {pos : Pos} {T : String} {e : Expr} {rest : List Expr} {kws : List Keyword} {Q : Value → Shared → Prop}
    (h : wpAny M A (spliced (backTo pos (starEach (e :: rest) env))) (fun vs s₁ => wpAny M A (evalAll ((backToKw pos (keywordEach kws env)).map (·.2)))
      (fun kvs s₂ => wpAny M A (call (.type T) vs (((backToKw pos (keywordEach kws env)).filterMap (·.1)).zip kvs)) Q E s₂) E s₁) E s)
    (he : backTo pos (starEach (e :: rest) env) = (false, eval e env) :: backTo pos (starEach rest env) := by rfl)
    (hplain : (backTo pos (starEach (e :: rest) env)).any (·.1) = false := by rfl)
    (hall : (backToKw pos (keywordEach kws env)).all (·.1.isSome) = true := by rfl)
    (hkw : (backToKw pos (keywordEach kws env)).any (·.1.isNone) = false := by rfl) :
    wpAny M A (callWith pos (.type T) [] (backTo pos (starEach (e :: rest) env)) (backToKw pos (keywordEach kws env))) Q E s := by
  have h' : wpAny M A (evalArgs (.type T) true (backTo pos (starEach (e :: rest) env)) (backToKw pos (keywordEach kws env))) (fun a s₁ => wpAny M A (call (.type T) ([] ++ a.pos) a.kw) Q E s₁) E s := by
    rw [he] at h ⊢
    exact evalArgs_kwB hall h
  unfold callWith
  refine wpAny_bind (wpAny_holding (wpAny_mono h' (fun a s₁ h₁ => wpAny_bind (wpAny_standAt ?_)) fun _ _ x => x))
  simp only [hplain, hkw, Bool.or_false]
  refine wpAny_bind (wpAny_pure ?_)
  exact wpAny_bind (wpAny_mono h₁ (fun r s₂ hr => wpAny_bind (wpAny_holding (wpAny_point (wpAny_pure hr)))) fun _ _ x => x)
end Z
/-- the items of a list or a tuple that stand while a loop walks them -/
def seqX : D → Gh → Option (Bool × List D × Gd)
  | .lst xs, _ => some (false, xs, none)
  | .tup xs, _ => some (true, xs, none)
  | .loc n, g => match g[n]? with
    | some (.lst xs) => some (false, xs, some (n, xs))
    | _ => none
  | _, _ => none
def gdAnd : Gd → Gd → Option Gd
  | none, x => some x
  | x, none => some x
  | _, _ => none
def pairD (xs ys : List D) : List D := List.zipWith (fun x y => .tup [x, y]) xs ys
/-- zip(a, b, strict=True) of two of one length -/
def iZipS (a b : ME) : MI := fun env g => (a env g).bind fun x g1 => (b env g1).bind fun y g2 => match seqX x g2, seqX y g2 with
  | some (_, xs, gx), some (_, ys, gy) => (match gdAnd gx gy with
    | some gd => if xs.length = ys.length then .ok (pairD xs ys, gd) g2 else .bad
    | none => .bad)
  | _, _ => .bad
section
variable {M : Im}
/-- what such a value is, through the walk -/
theorem seqX_keeps {w : Wd} {fr : List (Addr × HO)} {env : Env'} {G : Gh} {σ : L2.St} {H : Hp} {d : D} {v : V} {b : Bool} {xs : List D} {gd : Gd} (dv : DV M w d v) (e : seqX d G = some (b, xs, gd)) :
    ∃ q, v = .ref q ∧ (∀ w' fr env G' σ H', w.Le w' → RS M w' fr env G' σ H' → gdOk gd G' → ∃ vs, Z.SqX M.K H' b q vs ∧ DVs M w' xs vs) ∧ gdOk gd G := by
  cases dv <;> try cases e
  · rename_i a vs hs hd
    exact ⟨_, rfl, fun w' fr env G' σ H' l r _ => ⟨vs, SqT.mono (fun a o e => r.cold _ _ (l.c _ _ e)) hs, hd.up l⟩, trivial⟩
  · rename_i a vs hs hd
    exact ⟨_, rfl, fun w' fr env G' σ H' l r _ => ⟨vs, .inl (.inl (r.cold _ _ (l.c _ _ hs))), hd.up l⟩, trivial⟩
  · rename_i n q hn
    simp only [seqX] at e
    cases eo : G[n]? with
    | none => rw [eo] at e; cases e
    | some o =>
      rw [eo] at e
      cases o with
      | ins c fs => cases e
      | dct kvs => cases e
      | lst ys =>
        cases e
        refine ⟨_, rfl, fun w' fr env G' σ H' l r hg => ?_, eo⟩
        obtain ⟨a, ho, h1, h2, h3⟩ := r.obj (show G'[n]? = some (.lst xs) from hg)
        rw [l.r _ _ hn] at h1; cases h1
        cases h3 with
        | lst h3 => exact ⟨_, .inl (.inl h2), h3⟩
theorem gdAnd_ok {x y z : Gd} {G : Gh} (e : gdAnd x y = some z) (h : gdOk z G) : gdOk x G ∧ gdOk y G := by
  cases x <;> cases y <;> cases e <;> first | exact ⟨trivial, trivial⟩ | exact ⟨trivial, h⟩ | exact ⟨h, trivial⟩
theorem gdAnd_mk {x y z : Gd} {G : Gh} (e : gdAnd x y = some z) (h : gdOk x G) (h' : gdOk y G) : gdOk z G := by
  cases x <;> cases y <;> cases e <;> first | exact trivial | exact h | exact h'
theorem itok_zs {w : Wd} {b1 b2 : Bool} {q1 q2 : Addr} {xs ys : List D} {gx gy gd : Gd} (hl : xs.length = ys.length) (e : gdAnd gx gy = some gd)
    (k1 : ∀ w' fr env G' σ H', w.Le w' → RS M w' fr env G' σ H' → gdOk gx G' → ∃ vs, Z.SqX M.K H' b1 q1 vs ∧ DVs M w' xs vs)
    (k2 : ∀ w' fr env G' σ H', w.Le w' → RS M w' fr env G' σ H' → gdOk gy G' → ∃ vs, Z.SqX M.K H' b2 q2 vs ∧ DVs M w' ys vs) : ItOk M w gd (Z.Itzs M.K b1 q1 b2 q2) (pairD xs ys) where
  go := fun i w' fr env G σ H l r hg hi => by
    obtain ⟨vs, a1, a2⟩ := k1 w' fr env G σ H l r (gdAnd_ok e hg).1
    obtain ⟨us, c1, c2⟩ := k2 w' fr env G σ H l r (gdAnd_ok e hg).2
    have hi : i < xs.length := by unfold pairD at hi; rw [List.length_zipWith] at hi; omega
    have h1 : i < vs.length := by rw [← a2.length]; exact hi
    have h2 : i < us.length := by rw [← c2.length]; omega
    exact ⟨vs, us, _, _, a1, c1, List.getElem?_eq_getElem h1, List.getElem?_eq_getElem h2⟩
  yld := fun i w' fr env G σ H x H' d l r hg hi y => by
    obtain ⟨T, vx, vy, rfl, hT, rfl, f1, f2⟩ := y
    obtain ⟨vs, a1, a2⟩ := k1 w' fr env G σ H l r (gdAnd_ok e hg).1
    obtain ⟨us, c1, c2⟩ := k2 w' fr env G σ H l r (gdAnd_ok e hg).2
    unfold pairD at hi
    rw [List.getElem?_zipWith] at hi
    cases ex : xs[i]? with
    | none => rw [ex] at hi; cases hi
    | some dx =>
      cases ey : ys[i]? with
      | none => rw [ex, ey] at hi; cases hi
      | some dy =>
        rw [ex, ey] at hi
        cases hi
        obtain ⟨v1, z1, z2⟩ := a2.get ex
        obtain ⟨v2, z3, z4⟩ := c2.get ey
        have e1 := f1 vs a1
        have e2 := f2 us c1
        rw [z1] at e1; cases e1
        rw [z3] at e2; cases e2
        obtain ⟨l', r'⟩ := r.newCold (o := .tup [vx, vy]) hT
        exact ⟨_, l', r', .tup (.inl (.inl upd_same)) (.cons (z2.up l') (.cons (z4.up l') .nil))⟩
  stop := fun w' fr env G σ H l r hg => by
    obtain ⟨vs, a1, a2⟩ := k1 w' fr env G σ H l r (gdAnd_ok e hg).1
    obtain ⟨us, c1, c2⟩ := k2 w' fr env G σ H l r (gdAnd_ok e hg).2
    refine ⟨vs, us, a1, c1, ?_, ?_⟩
    · unfold pairD; rw [List.length_zipWith, ← a2.length]; omega
    · unfold pairD; rw [List.length_zipWith, ← c2.length]; omega
end
def iZipB (K : PySem.W.Frag) (ta : TA) : TI := fun σ H R => ta σ H fun vs H1 => ∃ a b b1 b2 xs ys, vs = [.ref a, .ref b] ∧ Z.SqX K H1 b1 a xs ∧ Z.SqX K H1 b2 b ys ∧ R (Z.Itzs K b1 a b2 b) H1
theorem pi_zipS {X : Cx} {e e2 : Expr} {ta : TA} {p pos tpos kp kc : Pos} {elts : List Expr} {kk kn : Nat} (hg : Gl X "zip") (hm : X.mg "zip" = none) (ha : PA X [e, e2] ta)
    (hs : starEach [e, e2] X.env = (false, eval e X.env) :: starEach [e2] X.env) (hs2 : starEach [e2] X.env = (false, eval e2 X.env) :: starEach [] X.env) :
    PI X (.Tuple elts kk tpos) (.Call (.Name "zip" p) [e, e2] [⟨some "strict", .Constant (.bool true) kn kc, kp⟩] pos) (iZipB X.K ta) := by
  refine ⟨fun pins s σ H R I h => ?_⟩
  refine wpAny_Call_Name_kw (ld_blt I hg hm PyProof.Rows.boot_zip ?_)
  refine Z.callWith_tyKw (thn (ha.run pos pins s σ H _ I h) fun us s1 ⟨vs, H1, I1, r1, q1⟩ => ?_) (by rw [hs]; rfl) (by rw [hs, hs2]; rfl) rfl rfl
  refine kws_cons ?_
  refine thn ((pe_bl (X := X) (b := true) (j := kn) (pos := kc)).run pins s1 σ H1 (fun v H' => v = .bl true ∧ H' = H1) I1 ⟨rfl, rfl⟩) fun vb s2 ⟨vv, H2, I2, rv2, ev, eh⟩ => ?_
  subst ev eh
  cases rv2
  refine kws_nil ?_
  obtain ⟨a, b, b1, b2, xs, ys, ex, hqx, hqy, q⟩ := q1
  subst ex
  cases r1 with
  | cons r rr =>
    cases rr with
    | cons r' rr =>
      cases rr
      cases r
      cases r'
      obtain ⟨its, rv, p1, la⟩ := Z.sqx I2 hqx
      obtain ⟨its2, rv2, p2, lb⟩ := Z.sqx I2 hqy
      have fresh5 : ∀ c, c ∈ [s2.heap.objs.size + 4, s2.heap.objs.size + 2, s2.heap.objs.size + 3, s2.heap.objs.size, s2.heap.objs.size + 1] → FpOk X pins H2 c := fun c hcm => by
        have e' : c = s2.heap.objs.size + 4 ∨ c = s2.heap.objs.size + 2 ∨ c = s2.heap.objs.size + 3 ∨ c = s2.heap.objs.size ∨ c = s2.heap.objs.size + 1 := by simpa using hcm
        have hle : s2.heap.objs.size ≤ c := by
          rcases e' with z | z | z | z | z
          · rw [z]; exact Nat.le_add_right _ _
          · rw [z]; exact Nat.le_add_right _ _
          · rw [z]; exact Nat.le_add_right _ _
          · rw [z]; exact Nat.le_refl _
          · rw [z]; exact Nat.le_add_right _ _
        exact I2.fpOk hle (I2.hok.fresh hle)
      refine Z.zip_beginsS (Z.begins_sq b1 a its.toArray) (Z.begins_sq b2 b its2.toArray) p1 p2 fun h' hz hTI hTO h1 h2 hsz hk => Z.zs_pyIter hz ?_
      have I3 : Inv X pins σ H2 { s2 with heap := h' } := I2.kept (t' := s2.toks) hk
      exact ⟨s2.heap.objs.size + 4, [s2.heap.objs.size + 4, s2.heap.objs.size + 2, s2.heap.objs.size + 3, s2.heap.objs.size, s2.heap.objs.size + 1], _, _, H2, rfl, I3, Z.turn_zs (PySem.W.ktu_apart s2.heap.objs.size a b la lb), ⟨hz, hTI, ⟨_, _, hTO⟩, Z.isIt_obj h1, Z.isIt_obj h2⟩, fresh5, q⟩
section
variable {M : Im} {W : XW} {X : Cx} {k : Nat} {a b : Expr} {ma mb : ME} {pos p tpos kp kc : Pos} {elts : List Expr} {kk kn : Nat}
theorem si_zipS (g : GX M k X) (hg : Gl X "zip") (hm : M.mg "zip" = none) (ha : SE M W X a ma) (hb : SE M W X b mb)
    (hs : starEach [a, b] X.env = (false, eval a X.env) :: starEach [b] X.env) (hs2 : starEach [b] X.env = (false, eval b X.env) :: starEach [] X.env) :
    SI M W X (.Tuple elts kk tpos) (.Call (.Name "zip" p) [a, b] [⟨some "strict", .Constant (.bool true) kn kc, kp⟩] pos) (iZipS ma mb) := by
  obtain ⟨t, a1, a2⟩ := ha
  obtain ⟨u, b1, b2⟩ := hb
  refine ⟨_, pi_zipS hg (by rw [g.mg]; exact hm) (pa_cons a1 (pa_cons b1 pa_nil hs2) hs) hs hs2, fun w fr env G σ H Q r h => ?_⟩
  refine a2 w fr env G σ H _ r ((Post.bind h).imp fun x w1 G1 H1 l1 r1 h1 vx dx => ?_)
  refine b2 w1 fr env G1 σ H1 _ r1 ((Post.bind h1).imp fun y w2 G2 H2 l2 r2 h2 vy dy => ?_)
  cases ex : seqX x G2 with
  | none => rw [ex] at h2; exact h2.elim
  | some px =>
  cases ey : seqX y G2 with
  | none => rw [ex, ey] at h2; exact h2.elim
  | some py =>
  obtain ⟨bx, xs, gx⟩ := px
  obtain ⟨by', ys, gy⟩ := py
  rw [ex, ey] at h2
  simp only at h2
  cases eg : gdAnd gx gy with
  | none => rw [eg] at h2; exact h2.elim
  | some gd =>
    rw [eg] at h2
    by_cases hl : xs.length = ys.length
    · simp only [hl, if_true] at h2
      obtain ⟨q1, rfl, k1, g1⟩ := seqX_keeps (fr := fr) (env := env) (σ := σ) (H := H2) (dx.up l2) ex
      obtain ⟨q2, rfl, k2, g2⟩ := seqX_keeps (fr := fr) (env := env) (σ := σ) (H := H2) dy ey
      obtain ⟨vs, s1, _⟩ := k1 w2 fr env G2 σ H2 (Wd.Le.refl _) r2 g1
      obtain ⟨us, s2, _⟩ := k2 w2 fr env G2 σ H2 (Wd.Le.refl _) r2 g2
      rw [← g.K] at s1 s2
      exact ⟨q1, q2, bx, by', vs, us, rfl, s1, s2, Post.here h2 r2 _ (by rw [g.K]; exact itok_zs hl eg k1 k2) (gdAnd_mk eg g1 g2)⟩
    · simp only [hl, if_false] at h2; exact h2.elim
end
section
variable {c : Cn} {W : XW} {N : List Str} {sc : Scope} {fnf : Str → Bool} {X : Cx} {a b : Expr} {ma mb : ME} {pos p tpos kp kc : Pos} {elts : List Expr} {kk kn : Nat}
theorem w_zipS (o : OkX c N sc fnf X) (h : chkG sc "zip" = true) (hm : c.M.mg "zip" = none) (ha : SE c.M W X a ma) (hb : SE c.M W X b mb)
    (hs : starEach [a, b] X.env = (false, eval a X.env) :: starEach [b] X.env) (hs2 : starEach [b] X.env = (false, eval b X.env) :: starEach [] X.env) :
    SI c.M W X (.Tuple elts kk tpos) (.Call (.Name "zip" p) [a, b] [⟨some "strict", .Constant (.bool true) kn kc, kp⟩] pos) (iZipS ma mb) := si_zipS o.g (chkG_gl o h).1 hm ha hb hs hs2
end
section
variable {env : Env'} {g : Gh} {a b : ME} {xs : List D}
@[simp] theorem seqX_lst : seqX (.lst xs) g = some (false, xs, none) := rfl
@[simp] theorem seqX_tup : seqX (.tup xs) g = some (true, xs, none) := rfl
@[simp] theorem gdAnd_none {x : Gd} : gdAnd none x = some x := rfl
@[simp] theorem iZipS_ap : iZipS a b env g = (a env g).bind fun x g1 => (b env g1).bind fun y g2 => match seqX x g2, seqX y g2 with
  | some (_, xs, gx), some (_, ys, gy) => (match gdAnd gx gy with
    | some gd => if xs.length = ys.length then .ok (pairD xs ys, gd) g2 else .bad
    | none => .bad)
  | _, _ => .bad := rfl
end
end GL
/-! GL part 70: the less of two data; enumerate, zip of two tuples; clear; attributes made greater. -/
namespace GL
open PySem L2 PyProof.Rows
def ltT (x y : D) : Option Bool := ltPy (toP x) (toP y)
def ltTD (x y : D) (g : Gh) : R D := match ltT x y with
  | some c => guardR (okD x 64 && okD y 64) (.bl c) g
  | none => .bad
def eLtT (a b : ME) : ME := fun env g => (a env g).bind fun x g1 => (b env g1).bind fun y g2 => ltTD (deref g2 x) (deref g2 y) g2
/-- enumerate(xs) of a list that nobody changes -/
def enumD (j : Nat) : List D → List D
  | [] => []
  | x :: xs => .tup [.int j, x] :: enumD (j + 1) xs
def iEnumM (a : ME) : MI := fun env g => (a env g).bind fun x g1 => match x with
  | .lst xs => .ok (enumD 0 xs, none) g1
  | _ => .bad
/-- zip(a, b) of two tuples -/
def zipD : List D → List D → List D
  | x :: xs, y :: ys => .tup [x, y] :: zipD xs ys
  | _, _ => []
def iZipT (a b : ME) : MI := fun env g => (a env g).bind fun x g1 => (b env g1).bind fun y g2 => match x, y with
  | .tup xs, .tup ys => .ok (zipD xs ys, none) g2
  | _, _ => .bad
def sLocClr (o : ME) : MS := fun env g => (o env g).bindS fun x g1 => match x with
  | .loc n => match g1[n]? with
    | some (.lst _) => .nx env (g1.set n (.lst []))
    | _ => .bad
  | _ => .bad
/-- o.f += v, whole numbers -/
def augF (c n : Nat) (f : Str) (i : Int) (env : Env') : D → Gh → SR
  | .int j, g => match g[n]? with
    | some (.ins c' fs) => if c' = c ∧ fs.length < 1000 then .nx env (g.set n (.ins c (putD f (.int (i + j)) fs))) else .bad
    | _ => .bad
  | _, _ => .bad
def sFldAdd (c : Nat) (f : Str) (o v : ME) : MS := fun env g => (o env g).bindS fun x g1 => match x with
  | .loc n => match g1[n]? with
    | some (.ins c' fs) => if c' = c then (match fs.lookup f with
        | some (.int i) => (v env g1).bindS fun y g2 => augF c n f i env y g2
        | _ => .bad) else .bad
    | _ => .bad
  | _ => .bad
theorem enumD_len : ∀ (j : Nat) (xs : List D), (enumD j xs).length = xs.length
  | _, [] => rfl
  | j, x :: xs => by simp [enumD, enumD_len]
theorem enumD_get : ∀ {j : Nat} {xs : List D} {i : Nat} {d : D}, (enumD j xs)[i]? = some d → ∃ x, d = .tup [.int ((j + i : Nat) : Int), x] ∧ xs[i]? = some x
  | j, [], i, d, h => by simp [enumD] at h
  | j, x :: xs, 0, d, h => by simp [enumD] at h; exact ⟨x, by rw [← h]; rfl, rfl⟩
  | j, x :: xs, i + 1, d, h => by
    obtain ⟨y, h1, h2⟩ := enumD_get (j := j + 1) (xs := xs) (i := i) (d := d) (by simpa [enumD] using h)
    exact ⟨y, by rw [h1]; congr 3; push_cast; omega, by simpa using h2⟩
theorem zipD_len : ∀ (xs ys : List D), (zipD xs ys).length = min xs.length ys.length
  | [], ys => by simp [zipD]
  | x :: xs, [] => by simp [zipD]
  | x :: xs, y :: ys => by simp only [zipD, List.length_cons, zipD_len xs ys]; omega
theorem zipD_get : ∀ {xs ys : List D} {i : Nat} {d : D}, (zipD xs ys)[i]? = some d → ∃ x y, d = .tup [x, y] ∧ xs[i]? = some x ∧ ys[i]? = some y
  | [], ys, i, d, h => by simp [zipD] at h
  | x :: xs, [], i, d, h => by simp [zipD] at h
  | x :: xs, y :: ys, 0, d, h => by simp [zipD] at h; exact ⟨x, y, h.symm, rfl, rfl⟩
  | x :: xs, y :: ys, i + 1, d, h => by
    obtain ⟨a, b, h1, h2, h3⟩ := zipD_get (xs := xs) (ys := ys) (i := i) (d := d) (by simpa [zipD] using h)
    exact ⟨a, b, h1, by simpa using h2, by simpa using h3⟩
section
variable {M : Im} {W : XW} {X : Cx} {k : Nat} {a b o : Expr} {ma mb mo : ME} {pos apos cpos p tpos : Pos} {elts : List Expr} {kk : Nat} {f : Str} {c : Nat} {Ca : Addr}
def rLtD (K : PySem.W.Frag) : R2 := fun x y H Q => ∃ d e c, Dp K H x d ∧ Dp K H y e ∧ SeqAt.shaped d = true ∧ SeqAt.shaped e = true ∧ ltPy d e = some c ∧ Q (.bl c) H
theorem op_ltD (hu : X.A.units + 65 < cLine) : OpR X (compareOp .Lt) (rLtD X.K) := by
  intro pins s σ H x y v u Q I rx ry h
  obtain ⟨d, e, c, hd, he, sd, se, hl, q⟩ := h
  obtain ⟨as, r1⟩ := Dp.reads I d x v hd rx
  obtain ⟨bs, r2⟩ := Dp.reads I e y u he ry
  exact rc_lt 64 d e X.A s v u as bs c (SeqAt.depth_of_shaped sd) r1 r2 (SeqAt.canLay_of_shaped sd) (SeqAt.canLay_of_shaped se) (by omega) hl X.prog X.w X.xe _ ⟨.bl c, H, I, rfl, q⟩
theorem ltTD_ok (g : GX M k X) : OpOk M W X (compareOp .Lt) (fun x y g => ltTD (deref g x) (deref g y) g) := by
  refine ⟨_, op_ltD g.u65, fun w fr env G σ H Q x y vx vy r hx hy h => ?_⟩
  have h : Post M W fr env σ w (PE' M Q) (ltTD (deref G x) (deref G y) G) := h
  have dx := DH.of r hx
  have dy := DH.of r hy
  generalize deref G x = x' at *
  generalize deref G y = y' at *
  unfold ltTD at h
  cases e : ltT x' y' with
  | none => rw [e] at h; exact h.elim
  | some c =>
    rw [e] at h
    obtain ⟨hb, h⟩ := guard_post (α := D) h
    simp only [Bool.and_eq_true] at hb
    have e1 := dx.dp r.cold hb.1
    have e2 := dy.dp r.cold hb.2
    rw [← g.K] at e1 e2
    exact ⟨_, _, c, e1, e2, okD_shaped hb.1, okD_shaped hb.2, e, Post.here h r _ (.bl _)⟩
theorem se_ltT (g : GX M k X) (ha : SE M W X a ma) (hb : SE M W X b mb) (hm : behindInMarks .Lt b = false) : SE M W X (.Compare a [.Lt] [b] pos) (eLtT ma mb) := by
  obtain ⟨r, o1, o2⟩ := ltTD_ok (W := W) g
  obtain ⟨ta, a1, a2⟩ := ha
  obtain ⟨tb, b1, b2⟩ := hb
  refine ⟨_, pe_cmpR o1 a1 b1 hm, fun w fr env G σ H Q rs h => ?_⟩
  refine a2 w fr env G σ H _ rs ((Post.bind h).imp fun x w1 G1 H1 l1 r1 h1 vx dx => ?_)
  refine b2 w1 fr env G1 σ H1 _ r1 ((Post.bind h1).imp fun y w2 G2 H2 l2 r2 h2 vy dy => ?_)
  exact o2 w2 fr env G2 σ H2 Q x y vx vy r2 (dx.up l2) dy h2
theorem itok_enum {w : Wd} {q : Addr} {xs : List D} {vs : List V} (h1 : w.C q = some (.lst vs)) (d1 : DVs M w xs vs) : ItOk M w none (Ite M.K q) (enumD 0 xs) where
  go := fun i w' fr env G σ H l r hg hi => by
    rw [enumD_len, d1.length] at hi
    exact ⟨vs, vs[i], .inl (.inl (r.cold _ _ (l.c _ _ h1))), List.getElem?_eq_getElem hi⟩
  yld := fun i w' fr env G σ H x H' d l r hg hi y => by
    obtain ⟨T, vx, rfl, hT, rfl, f1⟩ := y
    obtain ⟨x, rfl, ex⟩ := enumD_get hi
    obtain ⟨v1, z1, w1⟩ := d1.get ex
    have e1 := f1 vs (.inl (.inl (r.cold _ _ (l.c _ _ h1))))
    rw [z1] at e1; cases e1
    obtain ⟨l', r'⟩ := r.newCold (o := .tup [.int (i : Nat), vx]) hT
    refine ⟨_, l', r', .tup (.inl (.inl upd_same)) (.cons ?_ (.cons ((w1.up l).up l') .nil))⟩
    rw [Nat.zero_add]; exact .int _
  stop := fun w' fr env G σ H l r hg => ⟨vs, .inl (.inl (r.cold _ _ (l.c _ _ h1))), by rw [enumD_len, d1.length]; exact Nat.le_refl _⟩
theorem si_enum (g : GX M k X) (hg : Gl X "enumerate") (hm : M.mg "enumerate" = none) (ha : SE M W X a ma) (hs : starEach [a] X.env = [(false, eval a X.env)]) :
    SI M W X (.Tuple elts kk tpos) (.Call (.Name "enumerate" p) [a] [] pos) (iEnumM ma) := by
  obtain ⟨t, a1, a2⟩ := ha
  refine ⟨_, pi_enum hg (by rw [g.mg]; exact hm) (pa_cons a1 pa_nil hs) hs, fun w fr env G σ H Q r h => ?_⟩
  refine a2 w fr env G σ H _ r ((Post.bind h).imp fun x w1 G1 H1 l1 r1 h1 vx dx => ?_)
  cases dx <;> try exact h1.elim
  rename_i q vs xs s1 d1
  exact ⟨q, vs, rfl, .inl (.inl (r1.cold _ _ s1)), Post.here h1 r1 _ (by rw [g.K]; exact itok_enum s1 d1) trivial⟩
theorem itok_zipT {w : Wd} {q1 q2 : Addr} {xs ys : List D} {vs us : List V} (h1 : SqT M.K w.C q1 vs) (d1 : DVs M w xs vs) (h2 : SqT M.K w.C q2 us) (d2 : DVs M w ys us) : ItOk M w none (RZ.ItzT M.K q1 q2) (zipD xs ys) where
  go := fun i w' fr env G σ H l r hg hi => by
    rw [zipD_len, d1.length, d2.length] at hi
    exact ⟨vs, us, vs[i]'(by omega), us[i]'(by omega), SqT.mono (fun a o e => r.cold _ _ (l.c _ _ e)) h1, SqT.mono (fun a o e => r.cold _ _ (l.c _ _ e)) h2, List.getElem?_eq_getElem _, List.getElem?_eq_getElem _⟩
  yld := fun i w' fr env G σ H x H' d l r hg hi y => by
    obtain ⟨T, vx, vy, rfl, hT, rfl, f1, f2⟩ := y
    obtain ⟨x, y, rfl, ex, ey⟩ := zipD_get hi
    obtain ⟨v1, z1, w1⟩ := d1.get ex
    obtain ⟨v2, z2, w2⟩ := d2.get ey
    have e1 := f1 vs (SqT.mono (fun a o e => r.cold _ _ (l.c _ _ e)) h1)
    have e2 := f2 us (SqT.mono (fun a o e => r.cold _ _ (l.c _ _ e)) h2)
    rw [z1] at e1; cases e1
    rw [z2] at e2; cases e2
    obtain ⟨l', r'⟩ := r.newCold (o := .tup [vx, vy]) hT
    exact ⟨_, l', r', .tup (.inl (.inl upd_same)) (.cons ((w1.up l).up l') (.cons ((w2.up l).up l') .nil))⟩
  stop := fun w' fr env G σ H l r hg => by
    rw [zipD_len, d1.length, d2.length]
    exact ⟨vs, us, SqT.mono (fun a o e => r.cold _ _ (l.c _ _ e)) h1, SqT.mono (fun a o e => r.cold _ _ (l.c _ _ e)) h2, by omega⟩
theorem si_zipT (g : GX M k X) (hg : Gl X "zip") (hm : M.mg "zip" = none) (ha : SE M W X a ma) (hb : SE M W X b mb) (hs : starEach [a, b] X.env = (false, eval a X.env) :: starEach [b] X.env) (hs2 : starEach [b] X.env = (false, eval b X.env) :: starEach [] X.env) :
    SI M W X (.Tuple elts kk tpos) (.Call (.Name "zip" p) [a, b] [] pos) (iZipT ma mb) := by
  obtain ⟨t, a1, a2⟩ := ha
  obtain ⟨u, b1, b2⟩ := hb
  refine ⟨_, RZ.pi_zipA hg (by rw [g.mg]; exact hm) (pa_cons a1 (pa_cons b1 pa_nil hs2) hs) hs (by rw [hs2]; rfl), fun w fr env G σ H Q r h => ?_⟩
  refine a2 w fr env G σ H _ r ((Post.bind h).imp fun x w1 G1 H1 l1 r1 h1 vx dx => ?_)
  refine b2 w1 fr env G1 σ H1 _ r1 ((Post.bind h1).imp fun y w2 G2 H2 l2 r2 h2 vy dy => ?_)
  cases dx <;> cases dy <;> try exact h2.elim
  rename_i q1 vs xs s1 d1 q2 us ys s2 d2
  have t1 := SqT.mono l2.c s1
  have c1 := SqT.mono r2.cold t1
  have c2 := SqT.mono r2.cold s2
  rw [← g.K] at c1 c2
  exact ⟨q1, q2, vs, us, rfl, .inr ⟨c1, c2, Post.here h2 r2 _ (by rw [g.K]; exact itok_zipT t1 (d1.up l2) s2 d2) trivial⟩⟩
theorem ss_locClr (g : GX M k X) (ho : SE M W X o mo) (hbase : attributeBase o "clear" X.env (eval o X.env) = eval o X.env) (hline : (apos.endLine == cpos.line) = true) :
    SS M W X (.Expr (.Call (.Attribute o "clear" apos) [] [] cpos) pos) (sLocClr mo) := by
  obtain ⟨u, b1, b2⟩ := ho
  refine ⟨_, ps_expr (pe_bm0 PySem.F.plainAttrs_list PySem.F.slot_list_clear PySem.F.type_list_clear mt_clear b1 hbase hline) rfl, fun w fr env G σ H D r h => ?_⟩
  refine b2 w fr env G σ H _ r ((PostS.bind h).imp fun x w1 G1 H1 l1 r1 h1 vx dx => ?_)
  cases dx <;> try exact h1.elim
  rename_i nn q hq
  simp only at h1
  cases e : G1[nn]? with
  | none => rw [e] at h1; exact h1.elim
  | some ob =>
    rw [e] at h1
    cases ob with
    | ins c fs => exact h1.elim
    | dct kvs => exact h1.elim
    | lst xs =>
      obtain ⟨q', ho, e1, e2, e3⟩ := r1.obj e
      rw [hq] at e1; cases e1
      cases e3 with
      | lst e3 =>
        refine ⟨.inl ⟨rfl, _, .inl (.inl e2)⟩, q, _, rfl, rfl, e2, ?_⟩
        exact h1 w1 σ _ (Wd.Le.refl w1) (r1.setObj hq (.lst .nil))
theorem ss_fldAdd (g : GX M k X) (hC : ClsF M c f Ca) (ho : SE M W X o mo) (ha : SE M W X a ma) : SS M W X (.AugAssign (.Attribute o f p) .Add a pos) (sFldAdd c f mo ma) := by
  obtain ⟨t, a1, a2⟩ := ha
  obtain ⟨u, b1, b2⟩ := ho
  refine ⟨_, ps_fldaug b1 a1 iop_add, fun w fr env G σ H D r h => ?_⟩
  refine b2 w fr env G σ H _ r ((PostS.bind h).imp fun x w1 G1 H1 l1 r1 h1 vx dx => ?_)
  cases dx <;> try exact h1.elim
  rename_i n q hq
  simp only at h1
  cases e : G1[n]? with
  | none => rw [e] at h1; exact h1.elim
  | some ob =>
    rw [e] at h1
    cases ob with
    | lst xs => exact h1.elim
    | dct kvs => exact h1.elim
    | ins c' fs =>
      simp only at h1
      by_cases hc : c' = c
      · rw [if_pos hc] at h1
        subst hc
        obtain ⟨q', hob, e1, e2, e3⟩ := r1.obj e
        rw [hq] at e1; cases e1
        cases e3 with
        | ins f1 f2 =>
          have f1' := f1
          rw [hC.at_] at f1; cases f1
          have hcl := hC.cls
          have hno := hC.no
          rw [← g.K] at hcl hno
          cases el : fs.lookup f with
          | none => rw [el] at h1; exact h1.elim
          | some d =>
            rw [el] at h1
            obtain ⟨v, hv, dv⟩ := f2.lookup el
            cases d <;> try exact h1.elim
            rename_i i
            cases dv
            refine ⟨_, _, _, _, _, rfl, e2, hcl, hno, hv, a2 w1 fr env G1 σ H1 _ r1 ((PostS.bind h1).imp fun y w2 G2 H2 l2 r2 h2 vy dy => ?_)⟩
            cases dy <;> try exact h2.elim
            rename_i j
            simp only [augF] at h2
            refine ⟨i, j, rfl, rfl, ?_⟩
            cases e9 : G2[n]? with
            | none => rw [e9] at h2; exact h2.elim
            | some ob2 =>
              rw [e9] at h2
              cases ob2 with
              | lst xs => exact h2.elim
              | dct kvs => exact h2.elim
              | ins c2 fs2 =>
                simp only at h2
                by_cases hc2 : c2 = c' ∧ fs2.length < 1000
                · rw [if_pos hc2] at h2
                  obtain ⟨rfl, hl⟩ := hc2
                  obtain ⟨q2, hob2, k1, k2, k3⟩ := r2.obj e9
                  rw [l2.r _ _ hq] at k1; cases k1
                  cases k3 with
                  | ins g1 g2 =>
                    have g1' := g1
                    rw [hC.at_] at g1; cases g1
                    exact ⟨_, _, k2, by rw [← g2.length]; exact hl, h2 w2 σ _ (Wd.Le.refl w2) (r2.setObj (l2.r _ _ hq) (.ins g1' (g2.put (.int _))))⟩
                · rw [if_neg hc2] at h2; exact h2.elim
      · rw [if_neg hc] at h1; exact h1.elim
/-- an attribute as a target -/
def gAt (K : PySem.W.Frag) (ta : TE) (f : Str) : TG := fun v σ H Q => ta σ H fun x H2 => ∃ a C dx fs, x = .ref a ∧ H2 a = some (.ins C dx fs) ∧ Cls K C ∧ NoAttr K C f ∧ fs.length < 1000 ∧ Q σ (upd H2 a (.ins C dx (putF f v fs)))
theorem pg_attr {ta : TE} (ha : PE X o ta) : PG X (.Attribute o f p) (gAt X.K ta f) := by
  refine ⟨fun pins s σ H v u Q I r h => ?_⟩
  refine PySem.W.kas_attr (thn (ha.run pins s σ H _ I h) fun ov s2 ⟨x, H2, I2, rx, a, C, dx, fs, ex, ea, c, n, l, q2⟩ => ?_)
  subst ex
  obtain rfl : ov = Value.ref a := rx
  exact setattr_ok I2 ea c n l r fun s3 I3 => ⟨σ, _, I3, q2⟩
def setFS (c : Nat) (f : Str) (o : ME) (y : D) : MS := fun env g => (o env g).bindS fun x g2 => match x with
  | .loc n => match g2[n]? with
    | some (.ins c' fs) => if c' = c ∧ fs.length < 1000 then .nx env (g2.set n (.ins c (putD f y fs))) else .bad
    | _ => .bad
  | _ => .bad
/-- o.f = o'.f' = v -/
def sFld2 (c : Nat) (f f' : Str) (v o o' : ME) : MS := fun env g => (v env g).bindS fun y g1 => (setFS c f o y env g1).seq (setFS c f' o' y)
theorem setFS_read (g : GX M k X) (hC : ClsF M c f Ca) {ta : TE} (b2 : ∀ w fr env G σ H Q, RS M w fr env G σ H → Post M W fr env σ w (PE' M Q) (mo env G) → ta σ H Q) {w : Wd} {fr : List (Addr × HO)} {env : Env'} {G : Gh} {σ : L2.St} {H : Hp} {D : Ends} {y : GL.D} {vy : V} (r : RS M w fr env G σ H) (dy : DV M w y vy)
    {s' : MS} (h : PostS M W fr w D ((setFS c f mo y env G).seq s')) {Q : L2.St → Hp → Prop} (hQ : ∀ w' G' H', w.Le w' → RS M w' fr env G' σ H' → PostS M W fr w' D (s' env G') → Q σ H') : gAt X.K ta f vy σ H Q := by
  unfold setFS at h
  have h' : PostS M W fr w D ((mo env G).bindS fun x g2 => (match x with
    | .loc n => match g2[n]? with
      | some (.ins c' fs) => if c' = c ∧ fs.length < 1000 then SR.nx env (g2.set n (.ins c (putD f y fs))) else .bad
      | _ => .bad
    | _ => .bad : SR).seq s') := by
    cases e : mo env G <;> rw [e] at h <;> exact h
  refine b2 w fr env G σ H _ r ((PostS.bind h').imp fun x w2 G2 H2 l2 r2 h2 vx dx => ?_)
  cases dx <;> try exact h2.elim
  rename_i n q hq
  simp only at h2
  cases e : G2[n]? with
  | none => rw [e] at h2; exact h2.elim
  | some ob =>
    rw [e] at h2
    cases ob with
    | lst xs => exact h2.elim
    | dct kvs => exact h2.elim
    | ins c' fs =>
      simp only at h2
      by_cases hc : c' = c ∧ fs.length < 1000
      · rw [if_pos hc] at h2
        obtain ⟨rfl, hl⟩ := hc
        obtain ⟨q', hob, e1, e2, e3⟩ := r2.obj e
        rw [hq] at e1; cases e1
        cases e3 with
        | ins f1 f2 =>
          have f1' := f1
          rw [hC.at_] at f1; cases f1
          have hcl := hC.cls
          have hno := hC.no
          rw [← g.K] at hcl hno
          exact ⟨_, _, _, _, rfl, e2, hcl, hno, by rw [← f2.length]; exact hl, hQ w2 _ _ l2 (r2.setObj hq (.ins f1' (f2.put (dy.up l2)))) h2⟩
      · rw [if_neg hc] at h2; exact h2.elim
theorem seq_skip (r : SR) : r.seq sSkip = r := by cases r <;> rfl
theorem ss_fld2 (g : GX M k X) {f' : Str} {Cb : Addr} {o' : Expr} {mo' : ME} {p' : Pos} (hC : ClsF M c f Ca) (hC' : ClsF M c f' Cb) (ha : SE M W X a ma) (ho : SE M W X o mo) (ho' : SE M W X o' mo')
    (h1 : (assignEach [.Attribute o f p, .Attribute o' f' p'] X.env).map (·.2) = [assign (.Attribute o f p) X.env, assign (.Attribute o' f' p') X.env]) (hw : swappedStores [.Attribute o f p, .Attribute o' f' p'] a X.env = pure none) :
    SS M W X (.Assign [.Attribute o f p, .Attribute o' f' p'] a pos) (sFld2 c f f' ma mo mo') := by
  obtain ⟨t, a1, a2⟩ := ha
  obtain ⟨u, b1, b2⟩ := ho
  obtain ⟨v, c1, c2⟩ := ho'
  refine ⟨_, ps_asg2 a1 (pg_attr b1) (pg_attr c1) h1 hw, fun w fr env G σ H D r h => ?_⟩
  refine a2 w fr env G σ H _ r ((PostS.bind h).imp fun y w1 G1 H1 l1 r1 h1 vy dy => ?_)
  refine setFS_read g hC b2 r1 dy h1 fun w2 G2 H2 l2 r2 h2 => ?_
  rw [← seq_skip (setFS c f' mo' y env G2)] at h2
  exact setFS_read g hC' c2 r2 (dy.up l2) h2 fun w3 G3 H3 l3 r3 h3 => h3 w3 σ H3 (Wd.Le.refl w3) r3
end
section
variable {M : Im} {W : XW} {X : Cx} {k : Nat} {a b : Expr} {ma mb : ME} {pos : Pos}
theorem st_din (g : GX M k X) (hb : SE M W X b mb) (ha : SE M W X a ma) (hm : behindInMarks .In a = false) : ST M W X (.Compare b [.In] [a] pos) (tV (eDIn false mb ma)) := by
  obtain ⟨ta, a1, a2⟩ := ha
  obtain ⟨tb, b1, b2⟩ := hb
  refine ⟨_, pt_cmp (pc_din g.u1 b1 a1) hm, fun w fr env G σ H Q r h => din_read (neg := false) (Q := fun x H1 => ∃ c, x = .bl c ∧ Q c H1) a2 b2 r ((Post.bind h).imp fun z w3 G3 H3 l3 r3 h3 vz dz => ?_)⟩
  obtain ⟨c, e, h4⟩ := asB_post h3 dz
  exact ⟨c, e, Post.here h4 r3⟩
theorem st_dnotin (g : GX M k X) (hb : SE M W X b mb) (ha : SE M W X a ma) (hm : behindInMarks .NotIn a = false) : ST M W X (.Compare b [.NotIn] [a] pos) (tV (eDIn true mb ma)) := by
  obtain ⟨ta, a1, a2⟩ := ha
  obtain ⟨tb, b1, b2⟩ := hb
  refine ⟨_, pt_cmp (pc_dnotin g.u1 b1 a1) hm, fun w fr env G σ H Q r h => din_read (neg := true) (Q := fun x H1 => ∃ c, x = .bl c ∧ Q c H1) a2 b2 r ((Post.bind h).imp fun z w3 G3 H3 l3 r3 h3 vz dz => ?_)⟩
  obtain ⟨c, e, h4⟩ := asB_post h3 dz
  exact ⟨c, e, Post.here h4 r3⟩
end
/-! ### wrapped -/
section
variable {c : Cn} {W : XW} {N : List Str} {sc : Scope} {fnf : Str → Bool} {X : Cx} {a b e o' o2 : Expr} {ma mb me mo mo2 : ME} {pos p p2 apos cpos tpos : Pos} {f f' : Str} {cid kk : Nat} {elts : List Expr}
theorem w_dget (o : OkX c N sc fnf X) (ha : SE c.M W X a ma) (hb : SE c.M W X b mb) (hs : NoSl b) : SE c.M W X (.Subscript a b pos) (eDGet ma mb) := se_dget o.g ha hb hs
theorem w_din (o : OkX c N sc fnf X) (hb : SE c.M W X b mb) (ha : SE c.M W X a ma) (hm : behindInMarks .In a = false) : SE c.M W X (.Compare b [.In] [a] pos) (eDIn false mb ma) := se_din o.g hb ha hm
theorem w_dnotin (o : OkX c N sc fnf X) (hb : SE c.M W X b mb) (ha : SE c.M W X a ma) (hm : behindInMarks .NotIn a = false) : SE c.M W X (.Compare b [.NotIn] [a] pos) (eDIn true mb ma) := se_dnotin o.g hb ha hm
theorem w_tdin (o : OkX c N sc fnf X) (hb : SE c.M W X b mb) (ha : SE c.M W X a ma) (hm : behindInMarks .In a = false) : ST c.M W X (.Compare b [.In] [a] pos) (tV (eDIn false mb ma)) := st_din o.g hb ha hm
theorem w_tdnotin (o : OkX c N sc fnf X) (hb : SE c.M W X b mb) (ha : SE c.M W X a ma) (hm : behindInMarks .NotIn a = false) : ST c.M W X (.Compare b [.NotIn] [a] pos) (tV (eDIn true mb ma)) := st_dnotin o.g hb ha hm
theorem w_dget2 (o : OkX c N sc fnf X) (ha : SE c.M W X a ma) (hb : SE c.M W X b mb) (hc : SE c.M W X e me) (m : M2 X a "get" apos b e cpos) : SE c.M W X (.Call (.Attribute a "get" apos) [b, e] [] cpos) (eDGet2 ma mb me) := se_dget2 o.g ha hb hc m
theorem w_dsetd (o : OkX c N sc fnf X) (ha : SE c.M W X a ma) (hb : SE c.M W X b mb) (hc : SE c.M W X e me) (m : M2 X a "setdefault" apos b e cpos) : SE c.M W X (.Call (.Attribute a "setdefault" apos) [b, e] [] cpos) (eDSetd ma mb me) := se_dsetd o.g ha hb hc m
theorem w_ltT (o : OkX c N sc fnf X) (ha : SE c.M W X a ma) (hb : SE c.M W X b mb) (hm : behindInMarks .Lt b = false) : SE c.M W X (.Compare a [.Lt] [b] pos) (eLtT ma mb) := se_ltT o.g ha hb hm
theorem w_enum (o : OkX c N sc fnf X) (h : chkG sc "enumerate" = true) (hm : c.M.mg "enumerate" = none) (ha : SE c.M W X a ma) (hs : starEach [a] X.env = [(false, eval a X.env)]) : SI c.M W X (.Tuple elts kk tpos) (.Call (.Name "enumerate" p) [a] [] pos) (iEnumM ma) := si_enum o.g (chkG_gl o h).1 hm ha hs
theorem w_zipT (o : OkX c N sc fnf X) (h : chkG sc "zip" = true) (hm : c.M.mg "zip" = none) (ha : SE c.M W X a ma) (hb : SE c.M W X b mb) (hs : starEach [a, b] X.env = (false, eval a X.env) :: starEach [b] X.env) (hs2 : starEach [b] X.env = (false, eval b X.env) :: starEach [] X.env) :
    SI c.M W X (.Tuple elts kk tpos) (.Call (.Name "zip" p) [a, b] [] pos) (iZipT ma mb) := si_zipT o.g (chkG_gl o h).1 hm ha hb hs hs2
theorem w_locClr (o : OkX c N sc fnf X) (ho : SE c.M W X o' mo) (hbase : attributeBase o' "clear" X.env (eval o' X.env) = eval o' X.env) (hline : (apos.endLine == cpos.line) = true) : SS c.M W X (.Expr (.Call (.Attribute o' "clear" apos) [] [] cpos) pos) (sLocClr mo) := ss_locClr o.g ho hbase hline
theorem w_fldAdd (o : OkX c N sc fnf X) (F : CFd c cid f) (ho : SE c.M W X o' mo) (ha : SE c.M W X a ma) : SS c.M W X (.AugAssign (.Attribute o' f p) .Add a pos) (sFldAdd cid f mo ma) := by
  obtain ⟨Ca, h⟩ := F.ex
  exact ss_fldAdd o.g h ho ha
theorem w_fld2 (o : OkX c N sc fnf X) (F : CFd c cid f) (F' : CFd c cid f') (ha : SE c.M W X a ma) (ho : SE c.M W X o' mo) (ho' : SE c.M W X o2 mo2)
    (h1 : (assignEach [.Attribute o' f p, .Attribute o2 f' p2] X.env).map (·.2) = [assign (.Attribute o' f p) X.env, assign (.Attribute o2 f' p2) X.env]) (hw : swappedStores [.Attribute o' f p, .Attribute o2 f' p2] a X.env = pure none) :
    SS c.M W X (.Assign [.Attribute o' f p, .Attribute o2 f' p2] a pos) (sFld2 cid f f' ma mo mo2) := by
  obtain ⟨Ca, h⟩ := F.ex
  obtain ⟨Cb, h'⟩ := F'.ex
  exact ss_fld2 o.g h h' ha ho ho' h1 hw
variable {elt kx vx tg iter : Expr} {ifs : List Expr} {scope : Scope} {mi : MI} {mg : MG} {mt : MT} {mk mv : ME} {ts : List Nat} {pos2 : Pos}
theorem w_dcomp (o : OkX c N sc fnf X) (own : List (Str × Nat)) (hb : blkC N sc scope own = true) (hi : SI c.M W X tg iter mi)
    (hg : ∀ X', OkX c N (relS scope sc) (fun x => scope.names.lookup x == some .cell) X' → SG c.M X' tg ts mg) (ht : ∀ X', OkX c N (relS scope sc) (fun x => scope.names.lookup x == some .cell) X' → STs c.M W0 X' ifs mt)
    (hk : ∀ X', OkX c N (relS scope sc) (fun x => scope.names.lookup x == some .cell) X' → SE c.M W0 X' kx mk) (he : ∀ X', OkX c N (relS scope sc) (fun x => scope.names.lookup x == some .cell) X' → SE c.M W0 X' vx mv)
    (hts : (ts.all fun i => (own.map (·.2)).contains i) = true) (hs : ∀ x, foldedSetIterable iter X.env x = pure x) : SE c.M W X (.DictComp kx vx [⟨tg, iter, ifs, 0⟩] scope pos) (eDComp mi mg mt mk mv (own.map (·.2))) := by
  refine se_dcomp o.g hi (by rw [o.n, o.s]; exact blkOk_by hb) (fun s H C cl fp => hg _ (o.blk s H C cl fp)) (fun s H C cl fp => ht _ (o.blk s H C cl fp)) (fun s H C cl fp => hk _ (o.blk s H C cl fp)) (fun s H C cl fp => he _ (o.blk s H C cl fp)) (fun i hi => ?_) hs
  exact List.contains_iff_mem.mp (List.all_eq_true.mp hts i hi)
theorem w_setLen (o : OkX c N sc fnf X) (h : chkG sc "len" = true) (hm : c.M.mg "len" = none) (own : List (Str × Nat)) (hb : blkC N sc scope own = true) (hi : SI c.M W X tg iter mi)
    (hg : ∀ X', OkX c N (relS scope sc) (fun x => scope.names.lookup x == some .cell) X' → SG c.M X' tg ts mg) (ht : ∀ X', OkX c N (relS scope sc) (fun x => scope.names.lookup x == some .cell) X' → STs c.M W0 X' ifs mt)
    (he : ∀ X', OkX c N (relS scope sc) (fun x => scope.names.lookup x == some .cell) X' → SE c.M W0 X' elt me)
    (hts : (ts.all fun i => (own.map (·.2)).contains i) = true) (hs : ∀ x, foldedSetIterable iter X.env x = pure x) (hst : starEach [.SetComp elt [⟨tg, iter, ifs, 0⟩] scope pos] X.env = (false, eval (.SetComp elt [⟨tg, iter, ifs, 0⟩] scope pos) X.env) :: starEach [] X.env) :
    SE c.M W X (.Call (.Name "len" p) [.SetComp elt [⟨tg, iter, ifs, 0⟩] scope pos] [] pos2) (eSetLen mi mg mt me (own.map (·.2))) := by
  refine se_setLen o.g (chkG_gl o h).1 hm hi (by rw [o.n, o.s]; exact blkOk_by hb) (fun s H C cl fp => hg _ (o.blk s H C cl fp)) (fun s H C cl fp => ht _ (o.blk s H C cl fp)) (fun s H C cl fp => he _ (o.blk s H C cl fp)) (fun i hi => ?_) hs hst
  exact List.contains_iff_mem.mp (List.all_eq_true.mp hts i hi)
end
section
variable {env : Env'} {g : Gh} {a b c o v : ME} {x y z : D}
@[simp] theorem eDict0_ap : eDict0 env g = .ok (.loc g.length) (g ++ [.dct []]) := rfl
@[simp] theorem eDGet_ap : eDGet a b env g = (a env g).bind fun x g1 => (b env g1).bind fun y g2 => atDct (fun kvs g3 => onKey (fun k => match valD kvs k with
  | some d => .ok d g3
  | none => .bad) y) x g2 := rfl
@[simp] theorem eDIn_ap {neg : Bool} : eDIn neg b a env g = (b env g).bind fun y g1 => (a env g1).bind fun x g2 => atDct (fun kvs g3 => onKey (fun k => .ok (.bl (if neg then !(valD kvs k).isSome else (valD kvs k).isSome)) g3) y) x g2 := rfl
@[simp] theorem eDGet2_ap : eDGet2 a b c env g = (a env g).bind fun x g1 => if isDct x g1 then (b env g1).bind fun y g2 => (c env g2).bind fun z g3 => atDct (fun kvs g4 => onKey (fun k => .ok ((valD kvs k).getD z) g4) y) x g3 else .bad := rfl
@[simp] theorem eDSetd_ap : eDSetd a b c env g = (a env g).bind fun x g1 => if isDct x g1 then (b env g1).bind fun y g2 => (c env g2).bind fun z g3 => setdD x y z g3 else .bad := rfl
@[simp] theorem onKey_int {α : Type} {f : Key → R α} {i : Int} : onKey f (.int i) = f (.inl i) := rfl
@[simp] theorem onKey_str {α : Type} {f : Key → R α} {s : Str} : onKey f (.str s) = f (.inr s) := rfl
theorem atDct_at {α : Type} {f : List (Key × D) → Gh → R α} {n : Nat} {kvs : List (Key × D)} (h : g[n]? = some (.dct kvs)) : atDct f (.loc n) g = f kvs g := by simp [atDct, h]
theorem isDct_at {n : Nat} {kvs : List (Key × D)} (h : g[n]? = some (.dct kvs)) : isDct (.loc n) g = true := by simp [isDct, h]
@[simp] theorem eLtT_ap : eLtT a b env g = (a env g).bind fun x g1 => (b env g1).bind fun y g2 => ltTD (deref g2 x) (deref g2 y) g2 := rfl
@[simp] theorem iEnumM_ap : iEnumM a env g = (a env g).bind fun x g1 => match x with
  | .lst xs => .ok (enumD 0 xs, none) g1
  | _ => .bad := rfl
@[simp] theorem iZipT_ap : iZipT a b env g = (a env g).bind fun x g1 => (b env g1).bind fun y g2 => match x, y with
  | .tup xs, .tup ys => .ok (zipD xs ys, none) g2
  | _, _ => .bad := rfl
@[simp] theorem sLocClr_ap : sLocClr o env g = (o env g).bindS fun x g1 => match x with
  | .loc n => match g1[n]? with
    | some (.lst _) => .nx env (g1.set n (.lst []))
    | _ => .bad
  | _ => .bad := rfl
@[simp] theorem sFldAdd_ap {cid : Nat} {f : Str} : sFldAdd cid f o v env g = (o env g).bindS fun x g1 => match x with
  | .loc n => match g1[n]? with
    | some (.ins c' fs) => if c' = cid then (match fs.lookup f with
        | some (.int i) => (v env g1).bindS fun y g2 => augF cid n f i env y g2
        | _ => .bad) else .bad
    | _ => .bad
  | _ => .bad := rfl
@[simp] theorem sFld2_ap {cid : Nat} {f f' : Str} : sFld2 cid f f' v a b env g = (v env g).bindS fun y g1 => (setFS cid f a y env g1).seq (setFS cid f' b y) := rfl
@[simp] theorem setFS_ap {cid : Nat} {f : Str} : setFS cid f o y env g = (o env g).bindS fun x g2 => match x with
  | .loc n => match g2[n]? with
    | some (.ins c' fs) => if c' = cid ∧ fs.length < 1000 then .nx env (g2.set n (.ins cid (putD f y fs))) else .bad
    | _ => .bad
  | _ => .bad := rfl
end
end GL
/-! GL part 71: name = {k: v for ..} on one line. -/
namespace GL
open PySem L2 PyProof.Rows
section
variable {X : Cx}
theorem ps_setDc {i : Nat} {y : Str} {py : Pos} {kx vx tg iter : Expr} {ifs : List Expr} {scope : Scope} {own : List (Str × Nat)} {pos spos : Pos} {wi : TI} {g : TG} {tt : TT} {tk tv : TE} (hc : X.calm = true) (hN : X.N.Nodup) (hy : X.N[i]? = some y)
    (hyl : X.env.scope.names.lookup y = some .local) (hsw : swapsWith (.DictComp kx vx [⟨tg, iter, ifs, 0⟩] scope pos) (some (.Name y py)) spos.line X.env = pure true) (hi : PI X tg iter wi) (ok : BlkOk X.N X.env.scope scope own)
    (hg : ∀ s H C cl fp, PG (X.blk s H scope (compEnvC scope cl C X.env) fp) tg g) (ht : ∀ s H C cl fp, PTs (X.blk s H scope (compEnvC scope cl C X.env) fp) ifs tt)
    (hk : ∀ s H C cl fp, PE (X.blk s H scope (compEnvC scope cl C X.env) fp) kx tk) (he : ∀ s H C cl fp, PE (X.blk s H scope (compEnvC scope cl C X.env) fp) vx tv) (hs : ∀ x, foldedSetIterable iter X.env x = pure x) :
    PS X (.Assign [.Name y py] (.DictComp kx vx [⟨tg, iter, ifs, 0⟩] scope pos) spos) (tAsg (tDc wi g tt tk tv (own.map (·.2))) (gName i)) := by
  refine ⟨fun pins s σ H D I h => ?_⟩
  rw [exec_Assign_Name_used _ _ _ _ hsw]
  refine wpAny_bind (wpAny_standAt (wpAny_bind ?_))
  have core := dc_core (pos := pos) (pos' := firstIterPos [⟨tg, iter, ifs, 0⟩] pos) (use := some (assign (.Name y py) X.env)) (Qf := fun _ s' => SP X pins D .next s') hc hN I hi ok hg ht hk he hs
    (show tDc wi g tt tk tv (own.map (·.2)) σ H (fun x H1 => gName i x σ H1 D.nx) from h) fun L C s' m H' I' q ns f => by
      refine wpAny_assign_Name (store_ok2 (v := V.ref L) I' hN hy (.inl hyl) rfl (fun s2 I2 ⟨a, sb, ha⟩ => ?_) (.inr hyl))
      obtain ⟨c0, c1, c2, c3, c4, c5⟩ := f
      have apart : C ≠ a := ha.elim (fun z => by rw [z]; exact c1) (fun z e => c4 y a z e.symm)
      exact ⟨m, ns.sameBut sb apart, fun h3 sb3 => ⟨_, H', I2.turned (t' := s2.toks) (fun b o hb e => (sb3.2 b hb).trans e) c0 c1 c3 c4 c5, q⟩⟩
  exact wpAny_bind (thn core fun _ s' hq => wpAny_pure (wpAny_pure hq))
end
section
variable {M : Im} {W : XW} {X : Cx} {k : Nat} {kx vx tg iter : Expr} {ifs : List Expr} {scope : Scope} {own : List (Str × Nat)} {pos : Pos} {mi : MI} {mg : MG} {mt : MT} {mk mv : ME} {ts : List Nat}
theorem ss_setDComp (g : GX M k X) {i : Nat} {y : Str} {py spos : Pos} (hy : X.N[i]? = some y) (hyl : X.env.scope.names.lookup y = some .local)
    (hsw : swapsWith (.DictComp kx vx [⟨tg, iter, ifs, 0⟩] scope pos) (some (.Name y py)) spos.line X.env = pure true) (hi : SI M W X tg iter mi) (ok : BlkOk X.N X.env.scope scope own)
    (hg : ∀ (s : Shared) (H : Hp) (C : Addr) (cl : List (Str × Addr)) (fp : List Addr), SG M (X.blk s H scope (compEnvC scope cl C X.env) fp) tg ts mg)
    (ht : ∀ (s : Shared) (H : Hp) (C : Addr) (cl : List (Str × Addr)) (fp : List Addr), STs M W0 (X.blk s H scope (compEnvC scope cl C X.env) fp) ifs mt)
    (hk : ∀ (s : Shared) (H : Hp) (C : Addr) (cl : List (Str × Addr)) (fp : List Addr), SE M W0 (X.blk s H scope (compEnvC scope cl C X.env) fp) kx mk)
    (he : ∀ (s : Shared) (H : Hp) (C : Addr) (cl : List (Str × Addr)) (fp : List Addr), SE M W0 (X.blk s H scope (compEnvC scope cl C X.env) fp) vx mv)
    (hts : ∀ i ∈ ts, i ∈ own.map (·.2)) (hs : ∀ x, foldedSetIterable iter X.env x = pure x) :
    SS M W X (.Assign [.Name y py] (.DictComp kx vx [⟨tg, iter, ifs, 0⟩] scope pos) spos) (sSet i (eDComp mi mg mt mk mv (own.map (·.2)))) := by
  obtain ⟨wi, i1, i2⟩ := hi
  refine ⟨_, ps_setDc g.calm g.nd hy hyl hsw i1 ok (fun s H C cl fp => (hg s H C cl fp).pg) ht (fun s H C cl fp => (hk s H C cl fp).pe) (fun s H C cl fp => (he s H C cl fp).pe) hs, fun w fr env G σ H D r h => ?_⟩
  exact dc_read i2 hts r ((PostS.bind h).imp fun x w1 G1 H1 l1 r1 h1 v dv => h1 w1 _ _ (Wd.Le.refl w1) (r1.setVal i dv))
end
section
variable {c : Cn} {W : XW} {N : List Str} {sc : Scope} {fnf : Str → Bool} {X : Cx} {kx vx tg iter : Expr} {ifs : List Expr} {scope : Scope} {pos py spos : Pos} {mi : MI} {mg : MG} {mt : MT} {mk mv : ME} {ts : List Nat} {y : Str}
theorem sw_eqD (o : OkX c N sc fnf X) (hk : isFnK sc.kind = true) {gs : List Comprehension} {l : Nat} : swapsWith (.DictComp kx vx gs scope pos) (some (.Name y py)) l X.env = pure (chkSw sc y py pos scope) := by
  have hk' : X.env.scope.kind = .function := by rw [o.s]; exact isFnK_eq hk
  have hb : X.env.blockKind = .function := by unfold Env.blockKind; rw [hk']; rfl
  have e1 : (X.env.kindOf y == some NameKind.local) = decide (sc.names.lookup y = some .local) := by
    unfold Env.kindOf; rw [o.s]
    cases sc.names.lookup y with
    | none => rfl
    | some k => cases k <;> rfl
  unfold swapsWith chkSw
  simp only [hb, e1, Expr.pos]
  rfl
theorem w_setDComp (o : OkX c N sc fnf X) (i : Nat) (h : chkT N sc fnf i y = true) (hk : isFnK sc.kind = true) (hsw : chkSw sc y py pos scope = true) (own : List (Str × Nat)) (hb : blkC N sc scope own = true) (hi : SI c.M W X tg iter mi)
    (hg : ∀ X', OkX c N (relS scope sc) (fun x => scope.names.lookup x == some .cell) X' → SG c.M X' tg ts mg) (ht : ∀ X', OkX c N (relS scope sc) (fun x => scope.names.lookup x == some .cell) X' → STs c.M W0 X' ifs mt)
    (hkx : ∀ X', OkX c N (relS scope sc) (fun x => scope.names.lookup x == some .cell) X' → SE c.M W0 X' kx mk) (he : ∀ X', OkX c N (relS scope sc) (fun x => scope.names.lookup x == some .cell) X' → SE c.M W0 X' vx mv)
    (hts : (ts.all fun i => (own.map (·.2)).contains i) = true) (hs : ∀ x, foldedSetIterable iter X.env x = pure x) :
    SS c.M W X (.Assign [.Name y py] (.DictComp kx vx [⟨tg, iter, ifs, 0⟩] scope pos) spos) (sSet i (eDComp mi mg mt mk mv (own.map (·.2)))) := by
  have hl : X.env.scope.names.lookup y = some .local := by
    unfold chkSw at hsw
    simp only [Bool.and_eq_true, decide_eq_true_eq] at hsw
    rw [o.s]; exact hsw.1.1
  refine ss_setDComp o.g (chkT_of o h).1 hl (by rw [sw_eqD o hk, hsw]) hi (by rw [o.n, o.s]; exact blkOk_by hb) (fun s H C cl fp => hg _ (o.blk s H C cl fp)) (fun s H C cl fp => ht _ (o.blk s H C cl fp)) (fun s H C cl fp => hkx _ (o.blk s H C cl fp)) (fun s H C cl fp => he _ (o.blk s H C cl fp)) (fun i hi => ?_) hs
  exact List.contains_iff_mem.mp (List.all_eq_true.mp hts i hi)
end
end GL
/-! GL part 72: an own list asked at a place that is reckoned by calls. -/
namespace GL
open PySem L2 PyProof.Rows
def ownAt (env : Env') (i : Nat) : D → Gh → R D
  | .int j, g => match env[i]? with
    | some (.own xs) => match atI xs j with
      | some d => .ok d g
      | none => .bad
    | _ => .bad
  | _, _ => .bad
def isOwn (env : Env') (i : Nat) : Bool := match env[i]? with
  | some (.own _) => true
  | _ => false
def eOwnSub (i : Nat) (b : ME) : ME := fun env g => if isOwn env i then (b env g).bind (ownAt env i) else .bad
section
variable {M : Im} {W : XW} {X : Cx} {k i : Nat} {b : Expr} {mb : ME} {pos p : Pos} {x : Str}
theorem se_ownSub (g : GX M k X) (hN : X.N[i]? = some x) (hv : Vis X.env.scope x) (hdb : (x == ("__debug__" : Str)) = false) (hcd : (x == ("__classdict__" : Str)) = false) (hb : SE M W X b mb) (hs : PlainIx b) : SE M W X (.Subscript (.Name x p) b pos) (eOwnSub i mb) := by
  obtain ⟨tb, b1, b2⟩ := hb
  refine ⟨_, pe_ix ix_list (pe_var (pos := p) hN hv hdb hcd) b1 hs, fun w fr env G σ H Q r h => ?_⟩
  unfold eOwnSub isOwn at h
  cases q : env[i]? with
  | none => simp only [q] at h; exact h.elim
  | some s =>
    cases s with
    | un => simp only [q] at h; exact h.elim
    | val d => simp only [q] at h; exact h.elim
    | own xs =>
      simp only [q, if_true] at h
      obtain ⟨l, vs, h1, h2, h3, _⟩ := r.getOwn q
      refine ⟨_, h1, b2 w fr env G σ H _ r ((Post.bind h).imp fun y w1 G1 H1 l1 r1 h4 vy dy => ?_)⟩
      cases dy <;> try exact h4.elim
      rename_i j
      simp only [ownAt, q] at h4
      cases e : atI xs j with
      | none => rw [e] at h4; exact h4.elim
      | some d =>
        rw [e] at h4
        obtain ⟨l', vs', e1, e2, e3, _⟩ := r1.getOwn q
        rw [h1] at e1; cases e1
        obtain ⟨jj, k1, k2⟩ := sub_at e3.length e
        obtain ⟨v, k3, k4⟩ := e3.get k1
        exact ⟨l, vs', j, v, rfl, rfl, .inl (.inl e2), by rw [k2]; exact k3, Post.here h4 r1 v k4⟩
end
section
variable {c : Cn} {W : XW} {N : List Str} {sc : Scope} {fnf : Str → Bool} {X : Cx} {b : Expr} {mb : ME} {pos p : Pos} {x : Str}
theorem w_ownSub (o : OkX c N sc fnf X) (i : Nat) (h : chkV N sc i x = true) (hb : SE c.M W X b mb) (hs : PlainIx b) : SE c.M W X (.Subscript (.Name x p) b pos) (eOwnSub i mb) :=
  se_ownSub o.g (chkV_of o h).1 (chkV_of o h).2.1 (chkV_of o h).2.2.1 (chkV_of o h).2.2.2 hb hs
end
@[simp] theorem eOwnSub_ap {i : Nat} {b : ME} {env : Env'} {g : Gh} : eOwnSub i b env g = if isOwn env i then (b env g).bind (ownAt env i) else .bad := rfl
end GL
namespace LW
open PySem L2 GL PyProof.Rows
def top (i : Nat) : Stmt := PySem.Challenge.pw_fednumbers_k08_turns.main.body.getD i (.Pass ⟨0, 0, 0, 0⟩)
def v_LETTERS : D := .str "abcdefghijklmnopqrstuvwxyz"
def v_NUMBER : D := .str "number"
def v_KINDS : D := .tup [.str "number", .str "word"]
def v_SAY : D := .str "say"
def v_UNSAY : D := .str "unsay"
def v_MOST_LETTERS : D := .int 8
def v_MOST_SOURCES : D := .int 4
def v_MOST_COLUMNS : D := .int 4
def v_MOST_ROW : D := .int 999
def v_MOST_VERSION : D := .int 99
def v_FAR : D := .int 1000000
abbrev s_is_whole : Stmt := top 6
def N_is_whole : List Str := ["thing"]
theorem sc_is_whole : FnScope N_is_whole ["thing"] (defScope s_is_whole) := ⟨rfl, rfl, rfl, by decide +kernel, rfl, by decide +kernel, by decide +kernel⟩
noncomputable def b_is_whole (F : Nat → FM) : MS := sRet (eAnd (eIsi isInt (eLv 0)) (eNot (tV (eIsi isBool (eLv 0)))))
abbrev s_is_within : Stmt := top 7
def N_is_within : List Str := ["thing", "least", "most"]
theorem sc_is_within : FnScope N_is_within ["thing", "least", "most"] (defScope s_is_within) := ⟨rfl, rfl, rfl, by decide +kernel, rfl, by decide +kernel, by decide +kernel⟩
noncomputable def b_is_within (F : Nat → FM) : MS := sRet (eAnd (eCall (F 1) 1 0 [0] [] (lCons (eLv 0) (lNil)) (lNil)) (eChain .LtE .LtE (eLv 1) (eLv 0) (eLv 2)))
abbrev s_is_name : Stmt := top 21
def N_is_name : List Str := ["thing", "sign"]
theorem sc_is_name : FnScope N_is_name ["thing"] (defScope s_is_name) := ⟨rfl, rfl, rfl, by decide +kernel, rfl, by decide +kernel, by decide +kernel⟩
noncomputable def ce_is_name_1 (F : Nat → FM) : ME := eCmp .In (eLv 1) (eC v_LETTERS)
noncomputable def b_is_name (F : Nat → FM) : MS := sSeq (sIf (tOr (tNot (tV (eIsi isStr (eLv 0)))) (tNot (tV (eChain .LtE .LtE (eC (.int 1)) (eBi oLen (lCons (eLv 0) (lNil))) (eC v_MOST_LETTERS))))) (sRet (eC (.bl false))) (sSkip)) (sRet (eBi oAll (lCons (eNew (lComp (iV (eLv 0)) (gNm 1) (tTrue) (ce_is_name_1 F) [1])) (lNil))))
abbrev s_is_moment : Stmt := top 22
def N_is_moment : List Str := ["thing"]
theorem sc_is_moment : FnScope N_is_moment ["thing"] (defScope s_is_moment) := ⟨rfl, rfl, rfl, by decide +kernel, rfl, by decide +kernel, by decide +kernel⟩
noncomputable def b_is_moment (F : Nat → FM) : MS := sRet (eCall (F 2) 3 0 [0, 1, 2] [] (lCons (eLv 0) (lCons (eC (.int 0)) (lCons (eC v_FAR) (lNil)))) (lNil))
abbrev s_is_cell : Stmt := top 23
def N_is_cell : List Str := ["thing", "kind"]
theorem sc_is_cell : FnScope N_is_cell ["thing", "kind"] (defScope s_is_cell) := ⟨rfl, rfl, rfl, by decide +kernel, rfl, by decide +kernel, by decide +kernel⟩
noncomputable def b_is_cell (F : Nat → FM) : MS := sSeq (sIf (tV (eCmp .Is (eLv 0) (eC .non))) (sRet (eC (.bl true))) (sSkip)) (sRet (eIf (tV (eCmp .Eq (eLv 1) (eC v_NUMBER))) (eCall (F 2) 3 0 [0, 1, 2] [] (lCons (eLv 0) (lCons (eNeg (eC v_FAR)) (lCons (eC v_FAR) (lNil)))) (lNil)) (eCall (F 3) 1 0 [0] [] (lCons (eLv 0) (lNil)) (lNil))))
abbrev s_are_pairs : Stmt := top 24
def N_are_pairs : List Str := ["thing", "most", "pair", "name", "other"]
theorem sc_are_pairs : FnScope N_are_pairs ["thing", "most"] (defScope s_are_pairs) := ⟨rfl, rfl, rfl, by decide +kernel, rfl, by decide +kernel, by decide +kernel⟩
noncomputable def ce_are_pairs_1 (F : Nat → FM) : ME := eAnd (eIsi isTuple (eLv 2)) (eAnd (eCmp .Eq (eBi oLen (lCons (eLv 2) (lNil))) (eC (.int 2))) (eCall (F 3) 1 0 [0] [] (lCons (eSub (eLv 2) (eC (.int 0))) (lNil)) (lNil)))
noncomputable def b_are_pairs (F : Nat → FM) : MS := sSeq (sIf (tOr (tNot (tV (eIsi isTuple (eLv 0)))) (tNot (tV (eChain .LtE .LtE (eC (.int 1)) (eBi oLen (lCons (eLv 0) (lNil))) (eLv 1))))) (sRet (eC (.bl false))) (sSkip)) (sSeq (sIf (tNot (tV (eBi oAll (lCons (eNew (lComp (iV (eLv 0)) (gNm 2) (tTrue) (ce_are_pairs_1 F) [2])) (lNil))))) (sRet (eC (.bl false))) (sSkip)) (sRet (eCmp .Eq (eSetLen (iV (eLv 0)) (gTp 2 (gsCons (gNm 3) (gsCons (gNm 4) (gsNil)))) (tTrue) (eLv 3) [3, 4]) (eBi oLen (lCons (eLv 0) (lNil))))))
abbrev s_are_columns : Stmt := top 25
def N_are_columns : List Str := ["thing", "name", "kind"]
theorem sc_are_columns : FnScope N_are_columns ["thing"] (defScope s_are_columns) := ⟨rfl, rfl, rfl, by decide +kernel, rfl, by decide +kernel, by decide +kernel⟩
noncomputable def ce_are_columns_1 (F : Nat → FM) : ME := eAnd (eIsi isStr (eLv 2)) (eCmp .In (eLv 2) (eC v_KINDS))
noncomputable def b_are_columns (F : Nat → FM) : MS := sRet (eAnd (eCall (F 6) 2 0 [0, 1] [] (lCons (eLv 0) (lCons (eC v_MOST_COLUMNS) (lNil))) (lNil)) (eBi oAll (lCons (eNew (lComp (iV (eLv 0)) (gTp 2 (gsCons (gNm 1) (gsCons (gNm 2) (gsNil)))) (tTrue) (ce_are_columns_1 F) [1, 2])) (lNil))))
abbrev s_are_sources : Stmt := top 26
def N_are_sources : List Str := ["thing", "name", "columns"]
theorem sc_are_sources : FnScope N_are_sources ["thing"] (defScope s_are_sources) := ⟨rfl, rfl, rfl, by decide +kernel, rfl, by decide +kernel, by decide +kernel⟩
noncomputable def ce_are_sources_1 (F : Nat → FM) : ME := eCall (F 7) 1 0 [0] [] (lCons (eLv 2) (lNil)) (lNil)
noncomputable def b_are_sources (F : Nat → FM) : MS := sRet (eAnd (eCall (F 6) 2 0 [0, 1] [] (lCons (eLv 0) (lCons (eC v_MOST_SOURCES) (lNil))) (lNil)) (eBi oAll (lCons (eNew (lComp (iV (eLv 0)) (gTp 2 (gsCons (gNm 1) (gsCons (gNm 2) (gsNil)))) (tTrue) (ce_are_sources_1 F) [1, 2])) (lNil))))
abbrev s_are_cells : Stmt := top 27
def N_are_cells : List Str := ["columns", "thing", "name", "kind", "cell"]
theorem sc_are_cells : FnScope N_are_cells ["columns", "thing"] (defScope s_are_cells) := ⟨rfl, rfl, rfl, by decide +kernel, rfl, by decide +kernel, by decide +kernel⟩
noncomputable def ce_are_cells_1 (F : Nat → FM) : ME := eCall (F 5) 2 0 [0, 1] [] (lCons (eLv 4) (lCons (eLv 3) (lNil))) (lNil)
noncomputable def b_are_cells (F : Nat → FM) : MS := sSeq (sIf (tOr (tNot (tV (eIsi isTuple (eLv 1)))) (tV (eCmp .NotEq (eBi oLen (lCons (eLv 1) (lNil))) (eBi oLen (lCons (eLv 0) (lNil)))))) (sRet (eC (.bl false))) (sSkip)) (sRet (eBi oAll (lCons (eNew (lComp (iZipS (eLv 0) (eLv 1)) (gTp 2 (gsCons (gTp 2 (gsCons (gNm 2) (gsCons (gNm 3) (gsNil)))) (gsCons (gNm 4) (gsNil)))) (tTrue) (ce_are_cells_1 F) [2, 3, 4])) (lNil))))
abbrev s_is_letter : Stmt := top 28
def N_is_letter : List Str := ["sources", "thing", "word", "source", "row", "version", "rest", "known", "key", "moment", "cells", "name", "columns"]
theorem sc_is_letter : FnScope N_is_letter ["sources", "thing"] (defScope s_is_letter) := ⟨rfl, rfl, rfl, by decide +kernel, rfl, by decide +kernel, by decide +kernel⟩
noncomputable def b_is_letter (F : Nat → FM) : MS := sSeq (sIf (tOr (tNot (tV (eIsi isTuple (eLv 1)))) (tOr (tV (eCmp .NotIn (eBi oLen (lCons (eLv 1) (lNil))) (eTup (lCons (eC (.int 4)) (lCons (eC (.int 7)) (lNil)))))) (tNot (tV (eIsi isStr (eSub (eLv 1) (eC (.int 0)))))))) (sRet (eC (.bl false))) (sSkip)) (sSeq (sAsg (eLv 1) (gSt 4 5 (gsCons (gNm 2) (gsCons (gNm 3) (gsCons (gNm 4) (gsCons (gNm 5) (gsCons (gNm 6) (gsNil)))))))) (sSeq (sSet 7 (eDComp (iV (eLv 0)) (gTp 2 (gsCons (gNm 11) (gsCons (gNm 12) (gsNil)))) (tTrue) (eLv 11) (eLv 12) [11, 12])) (sSeq (sIf (tOr (tV (eCmp .NotEq (eLv 2) (eIf (tV (eCmp .NotEq (eLv 6) (eNew (fLst (lNil))))) (eC v_SAY) (eC v_UNSAY)))) (tOr (tNot (tV (eIsi isStr (eLv 3)))) (tV (eDIn true (eLv 3) (eLv 7))))) (sRet (eC (.bl false))) (sSkip)) (sSeq (sIf (tOr (tNot (tV (eCall (F 2) 3 0 [0, 1, 2] [] (lCons (eLv 4) (lCons (eC (.int 1)) (lCons (eC v_MOST_ROW) (lNil)))) (lNil)))) (tNot (tV (eCall (F 2) 3 0 [0, 1, 2] [] (lCons (eLv 5) (lCons (eC (.int 1)) (lCons (eC v_MOST_VERSION) (lNil)))) (lNil))))) (sRet (eC (.bl false))) (sSkip)) (sSeq (sIf (tV (eCmp .Eq (eLv 6) (eNew (fLst (lNil))))) (sRet (eC (.bl true))) (sSkip)) (sSeq (sAsg (eLv 6) (gSq 3 (gsCons (gNm 8) (gsCons (gNm 9) (gsCons (gNm 10) (gsNil)))))) (sRet (eAnd (eCall (F 3) 1 0 [0] [] (lCons (eLv 8) (lNil)) (lNil)) (eAnd (eCall (F 4) 1 0 [0] [] (lCons (eLv 9) (lNil)) (lNil)) (eCall (F 9) 2 0 [0, 1] [] (lCons (eDGet (eLv 7) (eLv 3)) (lCons (eLv 10) (lNil))) (lNil)))))))))))
abbrev s_letter_weight : Stmt := top 29
def N_letter_weight : List Str := ["letter", "word", "source", "row", "version", "rest", "key", "moment", "cells", "cell"]
theorem sc_letter_weight : FnScope N_letter_weight ["letter"] (defScope s_letter_weight) := ⟨rfl, rfl, rfl, by decide +kernel, rfl, by decide +kernel, by decide +kernel⟩
noncomputable def ce_letter_weight_1 (F : Nat → FM) : ME := eIf (tV (eCmp .Is (eLv 9) (eC .non))) (eTup (lCons (eC (.int 0)) (lCons (eC (.int 0)) (lNil)))) (eTup (lCons (eC (.int 1)) (lCons (eLv 9) (lNil))))
noncomputable def b_letter_weight (F : Nat → FM) : MS := sSeq (sAsg (eLv 0) (gSt 4 5 (gsCons (gNm 1) (gsCons (gNm 2) (gsCons (gNm 3) (gsCons (gNm 4) (gsCons (gNm 5) (gsNil)))))))) (sSeq (sIf (tV (eCmp .Eq (eLv 1) (eC v_UNSAY))) (sRet (eTup (lCons (eLv 4) (lCons (eC (.int 1)) (lNil))))) (sSkip)) (sSeq (sAsg (eLv 5) (gSq 3 (gsCons (gNm 6) (gsCons (gNm 7) (gsCons (gNm 8) (gsNil)))))) (sRet (eTup (lCons (eLv 4) (lCons (eC (.int 0)) (lCons (eLv 6) (lCons (eLv 7) (lCons (eBi oTuple (lCons (eNew (lComp (iV (eLv 8)) (gNm 9) (tTrue) (ce_letter_weight_1 F) [9])) (lNil))) (lNil))))))))))
abbrev s_Book___init__ : Stmt := inCls (top 32) 0
def N_Book___init__ : List Str := ["self", "sources", "name", "columns"]
theorem sc_Book___init__ : FnScope N_Book___init__ ["self", "sources"] (defScope s_Book___init__) := ⟨rfl, rfl, rfl, by decide +kernel, rfl, by decide +kernel, by decide +kernel⟩
noncomputable def b_Book___init__ (F : Nat → FM) : MS := sSeq (sIf (tNot (tV (eCall (F 8) 1 0 [0] [] (lCons (eLv 1) (lNil)) (lNil)))) (sNever) (sSkip)) (sSeq (sFldS 27 "sources" (eLv 1) (eLv 0)) (sSeq (sFldS 27 "turned" (eDComp (iV (eLv 1)) (gTp 2 (gsCons (gNm 2) (gsCons (gNm 3) (gsNil)))) (tTrue) (eLv 2) (eDict0) [2, 3]) (eLv 0)) (sFld2 27 "ticks" "cut" (eC (.int 0)) (eLv 0) (eLv 0))))
abbrev s_Book_take : Stmt := inCls (top 32) 5
def N_Book_take : List Str := ["self", "letter", "word", "source", "row", "rest", "turns", "changed"]
theorem sc_Book_take : FnScope N_Book_take ["self", "letter"] (defScope s_Book_take) := ⟨rfl, rfl, rfl, by decide +kernel, rfl, by decide +kernel, by decide +kernel⟩
noncomputable def b_Book_take (F : Nat → FM) : MS := sSeq (sIf (tNot (tV (eCall (F 10) 2 0 [0, 1] [] (lCons (eFld 27 "sources" (eLv 0)) (lCons (eLv 1) (lNil))) (lNil)))) (sNever) (sSkip)) (sSeq (sFldAdd 27 "ticks" (eLv 0) (eC (.int 1))) (sSeq (sAsg (eLv 1) (gSt 3 4 (gsCons (gNm 2) (gsCons (gNm 3) (gsCons (gNm 4) (gsCons (gNm 5) (gsNil))))))) (sSeq (sSet 6 (eDSetd (eDGet (eFld 27 "turned" (eLv 0)) (eLv 3)) (eLv 4) (eAlloc (fLst (lNil))))) (sSeq (sSet 7 (eOr (eCmp .Eq (eLv 6) (eAlloc (fLst (lNil)))) (eLtT (eCall (F 11) 1 0 [0] [] (lCons (eSub (eSub (eLv 6) (eNeg (eC (.int 1)))) (eC (.int 1))) (lNil)) (lNil)) (eCall (F 11) 1 0 [0] [] (lCons (eLv 1) (lNil)) (lNil))))) (sSeq (sIf (tV (eLv 7)) (sLocApp (eLv 6) (eTup (lCons (eFld 27 "ticks" (eLv 0)) (lCons (eLv 1) (lNil))))) (sSkip)) (sRet (eTup (lCons (eFld 27 "ticks" (eLv 0)) (lCons (eLv 7) (lNil))))))))))
abbrev s_Book_rows_of : Stmt := inCls (top 32) 8
def N_Book_rows_of : List Str := ["self", "source"]
theorem sc_Book_rows_of : FnScope N_Book_rows_of ["self", "source"] (defScope s_Book_rows_of) := ⟨rfl, rfl, rfl, by decide +kernel, rfl, by decide +kernel, by decide +kernel⟩
noncomputable def b_Book_rows_of (F : Nat → FM) : MS := sSeq (sIf (tV (eDIn true (eLv 1) (eFld 27 "turned" (eLv 0)))) (sNever) (sSkip)) (sRet (eDGet (eFld 27 "turned" (eLv 0)) (eLv 1)))
abbrev s_Book_turns : Stmt := inCls (top 32) 11
def N_Book_turns : List Str := ["self", "source", "row"]
theorem sc_Book_turns : FnScope N_Book_turns ["self", "source", "row"] (defScope s_Book_turns) := ⟨rfl, rfl, rfl, by decide +kernel, rfl, by decide +kernel, by decide +kernel⟩
noncomputable def b_Book_turns (F : Nat → FM) : MS := sRet (eAlloc (lBi oListF (lCons (eDGet2 (eMeth 27 "rows_of" (F 14) 1 0 [0, 1] [] (eLv 0) (lCons (eLv 1) (lNil)) (lNil)) (eLv 2) (eNew (fLst (lNil)))) (lNil))))
abbrev s__law_bag : Stmt := top 34
def N__law_bag : List Str := ["_law_script", "_law_at", "_law_great", "_law_prime"]
theorem sc__law_bag : FnScope N__law_bag ["_law_script", "_law_at"] (defScope s__law_bag) := ⟨rfl, rfl, rfl, by decide +kernel, rfl, by decide +kernel, by decide +kernel⟩
noncomputable def b__law_bag (F : Nat → FM) : MS := sSeq (sSet 2 (eC (.int 0))) (sSeq (sIf (tV (eCmp .Lt (eLv 1) (eBi oLen (lCons (eLv 0) (lNil))))) (sSet 2 (eBi oAbs (lCons (eSub (eLv 0) (eLv 1)) (lNil)))) (sSkip)) (sSeq (sSet 3 (eSub (eNew (fLst (lCons (eC (.int 2147483629)) (lCons (eC (.int 2147483587)) (lCons (eC (.int 2147483579)) (lCons (eC (.int 2147483563)) (lCons (eC (.int 2147483549)) (lCons (eC (.int 2147483543)) (lCons (eC (.int 2147483497)) (lCons (eC (.int 2147483489)) (lNil))))))))))) (eBin .Mod (eLv 1) (eC (.int 8))))) (sRet (eAlloc (fLst (lCons (eBin .Mult (eLv 2) (eBi oInt (lCons (eCmp .GtE (eLv 2) (eBin .Pow (eC (.int 10)) (eC (.int 18)))) (lNil)))) (lCons (eBin .Mod (eBin .Pow (eBin .Add (eBin .Add (eBin .Mod (eLv 2) (eC (.int 2147483647))) (eBin .Mult (eC (.int 104729)) (eLv 1))) (eC (.int 7))) (eC (.int 5))) (eLv 3)) (lCons (eLv 3) (lCons (eC (.int 0)) (lNil))))))))))
abbrev s__law_take : Stmt := top 35
def N__law_take : List Str := ["_law_bag_here", "_law_many", "_law_digit"]
theorem sc__law_take : FnScope N__law_take ["_law_bag_here", "_law_many"] (defScope s__law_take) := ⟨rfl, rfl, rfl, by decide +kernel, rfl, by decide +kernel, by decide +kernel⟩
noncomputable def b__law_take (F : Nat → FM) : MS := sSeq (sIf (tV (eCmp .Gt (eSub (eLv 0) (eC (.int 0))) (eC (.int 0)))) (sSeq (sSet 2 (eBin .Mod (eSub (eLv 0) (eC (.int 0))) (eLv 1))) (sSeq (sSetIx (eBin .FloorDiv (eSub (eLv 0) (eC (.int 0))) (eLv 1)) (eLv 0) (eC (.int 0))) (sRet (eLv 2)))) (sSkip)) (sSeq (sSetIx (eBin .Add (eSub (eLv 0) (eC (.int 3))) (eC (.int 1))) (eLv 0) (eC (.int 3))) (sSeq (sSetIx (eBin .Mod (eBin .Add (eBin .Add (eBin .Mult (eSub (eLv 0) (eC (.int 1))) (eC (.int 48271))) (eBin .Mult (eC (.int 7919)) (eSub (eLv 0) (eC (.int 3))))) (eC (.int 11))) (eSub (eLv 0) (eC (.int 2)))) (eLv 0) (eC (.int 1))) (sRet (eBin .Mod (eBin .Mod (eBin .Pow (eBin .FloorDiv (eSub (eLv 0) (eC (.int 1))) (eC (.int 8))) (eC (.int 3))) (eC (.int 2147483629))) (eLv 1)))))
abbrev s__law_sources : Stmt := top 36
def N__law_sources : List Str := ["_law_bag_here", "_law_kinds", "_law_found", "_law_label", "_law_labels", "_law_k"]
theorem sc__law_sources : FnScope N__law_sources ["_law_bag_here"] (defScope s__law_sources) := ⟨rfl, rfl, rfl, by decide +kernel, rfl, by decide +kernel, by decide +kernel⟩
noncomputable def ce__law_sources_1 (F : Nat → FM) : ME := eTup (lCons (eSub (eLv 4) (eLv 5)) (lCons (eSub (eLv 1) (eCall (F 17) 2 0 [0, 1] [] (lCons (eLv 0) (lCons (eC (.int 2)) (lNil))) (lNil))) (lNil)))
noncomputable def lp__law_sources_2 (F : Nat → FM) : MS := sSeq (sSet 4 (eSub (eNew (fLst (lCons (eNew (fLst (lCons (eC (.str "x")) (lCons (eC (.str "y")) (lCons (eC (.str "z")) (lNil)))))) (lCons (eNew (fLst (lCons (eC (.str "abcdefgh")) (lCons (eC (.str "abcdefgi")) (lCons (eC (.str "k")) (lNil)))))) (lNil))))) (eCall (F 17) 2 0 [0, 1] [] (lCons (eLv 0) (lCons (eC (.int 2)) (lNil))) (lNil)))) (sOwnApp 2 (eTup (lCons (eLv 3) (lCons (eBi oTuple (lCons (eNew (lComp (iRange1 (eBin .Add (eC (.int 1)) (eCall (F 17) 2 0 [0, 1] [] (lCons (eLv 0) (lCons (eC (.int 3)) (lNil))) (lNil)))) (gNm 5) (tTrue) (ce__law_sources_1 F) [5])) (lNil))) (lNil)))))
noncomputable def b__law_sources (F : Nat → FM) : MS := sSeq (sSet 1 (eNew (fLst (lCons (eC (.str "number")) (lCons (eC (.str "word")) (lNil)))))) (sSeq (sSetOwn 2 (fLst (lCons (eTup (lCons (eC (.str "ab")) (lCons (eTup (lCons (eTup (lCons (eC (.str "x")) (lCons (eC (.str "number")) (lNil)))) (lCons (eTup (lCons (eC (.str "to")) (lCons (eC (.str "word")) (lNil)))) (lNil)))) (lNil)))) (lNil)))) (sSeq (sFor (iV (eCut (eSub (eNew (fLst (lCons (eNew (fLst (lCons (eC (.str "c")) (lCons (eC (.str "say")) (lNil))))) (lCons (eNew (fLst (lCons (eC (.str "k")) (lCons (eC (.str "aab")) (lNil))))) (lCons (eNew (fLst (lCons (eC (.str "abcdefgh")) (lCons (eC (.str "abcdefgi")) (lNil))))) (lNil)))))) (eCall (F 17) 2 0 [0, 1] [] (lCons (eLv 0) (lCons (eC (.int 3)) (lNil))) (lNil))) (oNone) (oSome (eCall (F 17) 2 0 [0, 1] [] (lCons (eLv 0) (lCons (eC (.int 3)) (lNil))) (lNil))))) (gNm 3) (lp__law_sources_2 F)) (sFreeze 2 (sRet (eBi oTuple (lCons (eLv 2) (lNil)))))))
abbrev s__law_key : Stmt := top 37
def N__law_key : List Str := ["_law_bag_here"]
theorem sc__law_key : FnScope N__law_key ["_law_bag_here"] (defScope s__law_key) := ⟨rfl, rfl, rfl, by decide +kernel, rfl, by decide +kernel, by decide +kernel⟩
noncomputable def b__law_key (F : Nat → FM) : MS := sRet (eSub (eNew (fLst (lCons (eC (.str "k")) (lCons (eC (.str "l")) (lCons (eC (.str "to")) (lCons (eC (.str "zzzzzzzz")) (lNil))))))) (eCall (F 17) 2 0 [0, 1] [] (lCons (eLv 0) (lCons (eC (.int 4)) (lNil))) (lNil)))
abbrev s__law_moment : Stmt := top 38
def N__law_moment : List Str := ["_law_bag_here"]
theorem sc__law_moment : FnScope N__law_moment ["_law_bag_here"] (defScope s__law_moment) := ⟨rfl, rfl, rfl, by decide +kernel, rfl, by decide +kernel, by decide +kernel⟩
noncomputable def b__law_moment (F : Nat → FM) : MS := sRet (eSub (eNew (fLst (lCons (eCall (F 17) 2 0 [0, 1] [] (lCons (eLv 0) (lCons (eC (.int 12)) (lNil))) (lNil)) (lCons (eCall (F 17) 2 0 [0, 1] [] (lCons (eLv 0) (lCons (eC (.int 40)) (lNil))) (lNil)) (lCons (eCall (F 17) 2 0 [0, 1] [] (lCons (eLv 0) (lCons (eBin .Add (eBin .Pow (eC (.int 10)) (eC (.int 6))) (eC (.int 1))) (lNil))) (lNil)) (lNil)))))) (eBin .FloorDiv (eCall (F 17) 2 0 [0, 1] [] (lCons (eLv 0) (lCons (eC (.int 9)) (lNil))) (lNil)) (eC (.int 4))))
abbrev s__law_cell : Stmt := top 39
def N__law_cell : List Str := ["_law_bag_here", "_law_kind"]
theorem sc__law_cell : FnScope N__law_cell ["_law_bag_here", "_law_kind"] (defScope s__law_cell) := ⟨rfl, rfl, rfl, by decide +kernel, rfl, by decide +kernel, by decide +kernel⟩
noncomputable def b__law_cell (F : Nat → FM) : MS := sSeq (sIf (tV (eCmp .Eq (eCall (F 17) 2 0 [0, 1] [] (lCons (eLv 0) (lCons (eC (.int 6)) (lNil))) (lNil)) (eC (.int 0)))) (sRet (eC .non)) (sSkip)) (sSeq (sIf (tV (eCmp .Eq (eLv 1) (eC (.str "word")))) (sRet (eCall (F 19) 1 0 [0] [] (lCons (eLv 0) (lNil)) (lNil))) (sSkip)) (sRet (eSub (eNew (fLst (lCons (eBin .Sub (eCall (F 17) 2 0 [0, 1] [] (lCons (eLv 0) (lCons (eC (.int 9)) (lNil))) (lNil)) (eC (.int 4))) (lCons (eBin .Sub (eCall (F 17) 2 0 [0, 1] [] (lCons (eLv 0) (lCons (eBin .Add (eBin .Mult (eC (.int 2)) (eBin .Pow (eC (.int 10)) (eC (.int 6)))) (eC (.int 1))) (lNil))) (lNil)) (eBin .Pow (eC (.int 10)) (eC (.int 6)))) (lNil))))) (eBin .FloorDiv (eCall (F 17) 2 0 [0, 1] [] (lCons (eLv 0) (lCons (eC (.int 8)) (lNil))) (lNil)) (eC (.int 7))))))
abbrev s__law_letter : Stmt := top 40
def N__law_letter : List Str := ["_law_bag_here", "_law_sources_here", "_law_label", "_law_columns", "_law_line", "_law_turn", "_law_some", "_law_column", "_law_kind"]
theorem sc__law_letter : FnScope N__law_letter ["_law_bag_here", "_law_sources_here"] (defScope s__law_letter) := ⟨rfl, rfl, rfl, by decide +kernel, rfl, by decide +kernel, by decide +kernel⟩
noncomputable def ce__law_letter_1 (F : Nat → FM) : ME := eCall (F 21) 2 0 [0, 1] [] (lCons (eLv 0) (lCons (eLv 8) (lNil))) (lNil)
noncomputable def b__law_letter (F : Nat → FM) : MS := sSeq (sAsg (eSub (eLv 1) (eCall (F 17) 2 0 [0, 1] [] (lCons (eLv 0) (lCons (eBi oLen (lCons (eLv 1) (lNil))) (lNil))) (lNil))) (gSq 2 (gsCons (gNm 2) (gsCons (gNm 3) (gsNil))))) (sSeq (sPar 4 5 (lCons (eBin .Add (eC (.int 1)) (eCall (F 17) 2 0 [0, 1] [] (lCons (eLv 0) (lCons (eC (.int 6)) (lNil))) (lNil))) (lCons (eBin .Add (eC (.int 1)) (eCall (F 17) 2 0 [0, 1] [] (lCons (eLv 0) (lCons (eC (.int 3)) (lNil))) (lNil))) (lNil)))) (sSeq (sIf (tV (eCmp .Eq (eCall (F 17) 2 0 [0, 1] [] (lCons (eLv 0) (lCons (eC (.int 6)) (lNil))) (lNil)) (eC (.int 0)))) (sRet (eTup (lCons (eC (.str "unsay")) (lCons (eLv 2) (lCons (eLv 4) (lCons (eLv 5) (lNil))))))) (sSkip)) (sSeq (sSet 6 (eBi oTuple (lCons (eNew (lComp (iV (eLv 3)) (gTp 2 (gsCons (gNm 7) (gsCons (gNm 8) (gsNil)))) (tTrue) (ce__law_letter_1 F) [7, 8])) (lNil)))) (sRet (eTup (lCons (eC (.str "say")) (lCons (eLv 2) (lCons (eLv 4) (lCons (eLv 5) (lCons (eCall (F 19) 1 0 [0] [] (lCons (eLv 0) (lNil)) (lNil)) (lCons (eCall (F 20) 1 0 [0] [] (lCons (eLv 0) (lNil)) (lNil)) (lCons (eLv 6) (lNil)))))))))))))
abbrev s__law_letters : Stmt := top 41
def N__law_letters : List Str := ["_law_bag_here", "_law_sources_here", "_law_most", "_law_found", "_law_turn"]
theorem sc__law_letters : FnScope N__law_letters ["_law_bag_here", "_law_sources_here", "_law_most"] (defScope s__law_letters) := ⟨rfl, rfl, rfl, by decide +kernel, rfl, by decide +kernel, by decide +kernel⟩
noncomputable def lp__law_letters_1 (F : Nat → FM) : MS := sIf (tAnd (tBor 3 (tV (eCmp .NotEq (eLv 3) (eNew (fLst (lNil)))))) (tV (eCmp .Eq (eCall (F 17) 2 0 [0, 1] [] (lCons (eLv 0) (lCons (eC (.int 6)) (lNil))) (lNil)) (eC (.int 0))))) (sOwnApp 3 (eOwnSub 3 (eCall (F 17) 2 0 [0, 1] [] (lCons (eLv 0) (lCons (eBor 3 (eBi oLen (lCons (eLv 3) (lNil)))) (lNil))) (lNil)))) (sOwnApp 3 (eCall (F 22) 2 0 [0, 1] [] (lCons (eLv 0) (lCons (eLv 1) (lNil))) (lNil)))
noncomputable def b__law_letters (F : Nat → FM) : MS := sSeq (sSetOwn 3 (fLst (lNil))) (sSeq (sFor (iRange1 (eCall (F 17) 2 0 [0, 1] [] (lCons (eLv 0) (lCons (eBin .Add (eLv 2) (eC (.int 1))) (lNil))) (lNil))) (gNm 4) (lp__law_letters_1 F)) (sFreeze 3 (sRet (eLv 3))))
abbrev s__law_less : Stmt := top 42
def N__law_less : List Str := ["_law_one", "_law_two", "_law_mine", "_law_yours"]
theorem sc__law_less : FnScope N__law_less ["_law_one", "_law_two"] (defScope s__law_less) := ⟨rfl, rfl, rfl, by decide +kernel, rfl, by decide +kernel, by decide +kernel⟩
noncomputable def lp__law_less_1 (F : Nat → FM) : MS := sIf (tV (eCmp .NotEq (eLv 2) (eLv 3))) (sRet (eOr (eCmp .Is (eLv 2) (eC .non)) (eAnd (eCmp .IsNot (eLv 3) (eC .non)) (eCmp .Lt (eLv 2) (eLv 3))))) (sSkip)
noncomputable def b__law_less (F : Nat → FM) : MS := sSeq (sIf (tV (eCmp .NotEq (eSub (eLv 0) (eC (.int 3))) (eSub (eLv 1) (eC (.int 3))))) (sRet (eCmp .Lt (eSub (eLv 0) (eC (.int 3))) (eSub (eLv 1) (eC (.int 3))))) (sSkip)) (sSeq (sIf (tV (eCmp .NotEq (eBi oLen (lCons (eLv 0) (lNil))) (eBi oLen (lCons (eLv 1) (lNil))))) (sRet (eCmp .Gt (eBi oLen (lCons (eLv 0) (lNil))) (eBi oLen (lCons (eLv 1) (lNil))))) (sSkip)) (sSeq (sIf (tOr (tV (eCmp .Eq (eBi oLen (lCons (eLv 0) (lNil))) (eC (.int 4)))) (tV (eCmp .NotEq (eCut (eLv 0) (oSome (eC (.int 4))) (oSome (eC (.int 6)))) (eCut (eLv 1) (oSome (eC (.int 4))) (oSome (eC (.int 6))))))) (sRet (eLtT (eCut (eLv 0) (oSome (eC (.int 4))) (oSome (eC (.int 6)))) (eCut (eLv 1) (oSome (eC (.int 4))) (oSome (eC (.int 6)))))) (sSkip)) (sSeq (sFor (iZipT (eSub (eLv 0) (eC (.int 6))) (eSub (eLv 1) (eC (.int 6)))) (gTp 2 (gsCons (gNm 2) (gsCons (gNm 3) (gsNil)))) (lp__law_less_1 F)) (sRet (eC (.bl false))))))
abbrev s__law_turns : Stmt := top 43
def N__law_turns : List Str := ["_law_letters_here", "_law_place", "_law_found", "_law_at", "_law_letter_here"]
theorem sc__law_turns : FnScope N__law_turns ["_law_letters_here", "_law_place"] (defScope s__law_turns) := ⟨rfl, rfl, rfl, by decide +kernel, rfl, by decide +kernel, by decide +kernel⟩
noncomputable def lp__law_turns_1 (F : Nat → FM) : MS := sIf (tAnd (tV (eCmp .Eq (eCut (eLv 4) (oSome (eC (.int 1))) (oSome (eC (.int 3)))) (eLv 1))) (tOr (tBor 2 (tV (eCmp .Eq (eLv 2) (eNew (fLst (lNil)))))) (tV (eCall (F 24) 2 0 [0, 1] [] (lCons (eSub (eBor 2 (eSub (eLv 2) (eNeg (eC (.int 1))))) (eC (.int 1))) (lCons (eLv 4) (lNil))) (lNil))))) (sOwnApp 2 (eTup (lCons (eBin .Add (eLv 3) (eC (.int 1))) (lCons (eLv 4) (lNil))))) (sSkip)
noncomputable def b__law_turns (F : Nat → FM) : MS := sSeq (sSetOwn 2 (fLst (lNil))) (sSeq (sFor (iEnumM (eLv 0)) (gTp 2 (gsCons (gNm 3) (gsCons (gNm 4) (gsNil)))) (lp__law_turns_1 F)) (sFreeze 2 (sRet (eLv 2))))
abbrev s_law : Stmt := top 44
def N_law : List Str := ["_law_script", "_law_k", "_law_bag_here", "_law_sources_here", "_law_book", "_law_letters_here", "_law_letter_here", "_law_label", "_law_columns", "_law_line", "_law_due", "_law_found"]
theorem sc_law : FnScope N_law ["_law_script"] (defScope s_law) := ⟨rfl, rfl, rfl, by decide +kernel, rfl, by decide +kernel, by decide +kernel⟩
noncomputable def lp_law_1 (F : Nat → FM) : MS := sDrop (eMeth 27 "take" (F 13) 1 0 [0, 1] [] (eLv 4) (lCons (eLv 6) (lNil)) (lNil))
noncomputable def lp_law_2 (F : Nat → FM) : MS := sSeq (sSet 10 (eCall (F 25) 2 0 [0, 1] [] (lCons (eLv 5) (lCons (eTup (lCons (eLv 7) (lCons (eLv 9) (lNil)))) (lNil))) (lNil))) (sSeq (sSet 11 (eMeth 27 "turns" (F 15) 2 0 [0, 1, 2] [] (eLv 4) (lCons (eLv 7) (lCons (eLv 9) (lNil))) (lNil))) (sSeq (sIf (tOr (tNot (tV (eIsi isList (eLv 11)))) (tV (eCmp .NotEq (eBi oRepr (lCons (eLv 11) (lNil))) (eBi oRepr (lCons (eLv 10) (lNil)))))) (sRet (eC (.bl false))) (sSkip)) (sSeq (sLocClr (eLv 11)) (sIf (tV (eCmp .NotEq (eMeth 27 "turns" (F 15) 0 2 [0, 2, 1] [] (eLv 4) (lNil) (lCons (eLv 9) (lCons (eLv 7) (lNil)))) (eLv 10))) (sRet (eC (.bl false))) (sSkip)))))
noncomputable def lp_law_3 (F : Nat → FM) : MS := sFor (iV (eNew (fLst (lCons (eC (.int 1)) (lCons (eC (.int 2)) (lCons (eC (.int 3)) (lCons (eC (.int 4)) (lCons (eC (.int 5)) (lCons (eC (.int 6)) (lCons (eC (.int 7)) (lCons (eC (.int 999)) (lNil)))))))))))) (gNm 9) (lp_law_2 F)
noncomputable def lp_law_4 (F : Nat → FM) : MS := sSeq (sSet 2 (eCall (F 16) 2 0 [0, 1] [] (lCons (eLv 0) (lCons (eLv 1) (lNil))) (lNil))) (sSeq (sSet 3 (eCall (F 18) 1 0 [0] [] (lCons (eLv 2) (lNil)) (lNil))) (sSeq (sPar 4 5 (lCons (eMake 27 (F 12) 1 0 [0, 1] [] (lCons (eLv 3) (lNil)) (lNil)) (lCons (eCall (F 23) 3 0 [0, 1, 2] [] (lCons (eLv 2) (lCons (eLv 3) (lCons (eC (.int 40)) (lNil)))) (lNil)) (lNil)))) (sSeq (sFor (iV (eLv 5)) (gNm 6) (lp_law_1 F)) (sFor (iV (eLv 3)) (gTp 2 (gsCons (gNm 7) (gsCons (gNm 8) (gsNil)))) (lp_law_3 F)))))
noncomputable def b_law (F : Nat → FM) : MS := sSeq (sFor (iRange1 (eBi oMax (lCons (eC (.int 2)) (lCons (eBi oMin (lCons (eC (.int 4)) (lCons (eBi oLen (lCons (eLv 0) (lNil))) (lNil)))) (lNil))))) (gNm 1) (lp_law_4 F)) (sRet (eC (.bl true)))
noncomputable def tab : Nat → Nat → FM
  | 0, _ => fun _ _ => .bad
  | k + 1, 1 => mFun 1 1 (b_is_whole (tab k))
  | k + 1, 2 => mFun 3 3 (b_is_within (tab k))
  | k + 1, 3 => mFun 1 2 (b_is_name (tab k))
  | k + 1, 4 => mFun 1 1 (b_is_moment (tab k))
  | k + 1, 5 => mFun 2 2 (b_is_cell (tab k))
  | k + 1, 6 => mFun 2 5 (b_are_pairs (tab k))
  | k + 1, 7 => mFun 1 3 (b_are_columns (tab k))
  | k + 1, 8 => mFun 1 3 (b_are_sources (tab k))
  | k + 1, 9 => mFun 2 5 (b_are_cells (tab k))
  | k + 1, 10 => mFun 2 13 (b_is_letter (tab k))
  | k + 1, 11 => mFun 1 10 (b_letter_weight (tab k))
  | k + 1, 12 => mFun 2 4 (b_Book___init__ (tab k))
  | k + 1, 13 => mFun 2 8 (b_Book_take (tab k))
  | k + 1, 14 => mFun 2 2 (b_Book_rows_of (tab k))
  | k + 1, 15 => mFun 3 3 (b_Book_turns (tab k))
  | k + 1, 16 => mFun 2 4 (b__law_bag (tab k))
  | k + 1, 17 => mFun 2 3 (b__law_take (tab k))
  | k + 1, 18 => mFun 1 6 (b__law_sources (tab k))
  | k + 1, 19 => mFun 1 1 (b__law_key (tab k))
  | k + 1, 20 => mFun 1 1 (b__law_moment (tab k))
  | k + 1, 21 => mFun 2 2 (b__law_cell (tab k))
  | k + 1, 22 => mFun 2 9 (b__law_letter (tab k))
  | k + 1, 23 => mFun 3 5 (b__law_letters (tab k))
  | k + 1, 24 => mFun 2 4 (b__law_less (tab k))
  | k + 1, 25 => mFun 2 5 (b__law_turns (tab k))
  | k + 1, 26 => mFun 1 12 (b_law (tab k))
  | _ + 1, _ => fun _ _ => .bad
structure Ev (c : Cn) (F : Nat → FM) : Prop where
  z_abs : c.M.mg "abs" = none
  z_all : c.M.mg "all" = none
  z_bool : c.M.mg "bool" = none
  z_enumerate : c.M.mg "enumerate" = none
  z_int : c.M.mg "int" = none
  z_isinstance : c.M.mg "isinstance" = none
  z_len : c.M.mg "len" = none
  z_list : c.M.mg "list" = none
  z_max : c.M.mg "max" = none
  z_min : c.M.mg "min" = none
  z_range : c.M.mg "range" = none
  z_repr : c.M.mg "repr" = none
  z_str : c.M.mg "str" = none
  z_tuple : c.M.mg "tuple" = none
  z_zip : c.M.mg "zip" = none
  cf__law_bag_2 : CF c "_law_bag" (F 16) 2 [] [0, 1] []
  cf__law_cell_2 : CF c "_law_cell" (F 21) 2 [] [0, 1] []
  cf__law_key_1 : CF c "_law_key" (F 19) 1 [] [0] []
  cf__law_less_2 : CF c "_law_less" (F 24) 2 [] [0, 1] []
  cf__law_letter_2 : CF c "_law_letter" (F 22) 2 [] [0, 1] []
  cf__law_letters_3 : CF c "_law_letters" (F 23) 3 [] [0, 1, 2] []
  cf__law_moment_1 : CF c "_law_moment" (F 20) 1 [] [0] []
  cf__law_sources_1 : CF c "_law_sources" (F 18) 1 [] [0] []
  cf__law_take_2 : CF c "_law_take" (F 17) 2 [] [0, 1] []
  cf__law_turns_2 : CF c "_law_turns" (F 25) 2 [] [0, 1] []
  cf_are_cells_2 : CF c "are_cells" (F 9) 2 [] [0, 1] []
  cf_are_columns_1 : CF c "are_columns" (F 7) 1 [] [0] []
  cf_are_pairs_2 : CF c "are_pairs" (F 6) 2 [] [0, 1] []
  cf_are_sources_1 : CF c "are_sources" (F 8) 1 [] [0] []
  cf_is_cell_2 : CF c "is_cell" (F 5) 2 [] [0, 1] []
  cf_is_letter_2 : CF c "is_letter" (F 10) 2 [] [0, 1] []
  cf_is_moment_1 : CF c "is_moment" (F 4) 1 [] [0] []
  cf_is_name_1 : CF c "is_name" (F 3) 1 [] [0] []
  cf_is_whole_1 : CF c "is_whole" (F 1) 1 [] [0] []
  cf_is_within_3 : CF c "is_within" (F 2) 3 [] [0, 1, 2] []
  cf_letter_weight_1 : CF c "letter_weight" (F 11) 1 [] [0] []
  fd_Book_sources : CFd c 27 "sources"
  fd_Book_turned : CFd c 27 "turned"
  fd_Book_ticks : CFd c 27 "ticks"
  fd_Book_cut : CFd c 27 "cut"
  mk_Book___init___1 : CMk c "Book" 27 (F 12) 1 [] [0, 1] []
  me_Book_rows_of_1 : CMe c 27 "rows_of" (F 14) 1 [] [0, 1] []
  me_Book_take_1 : CMe c 27 "take" (F 13) 1 [] [0, 1] []
  me_Book_turns_0_row_source : CMe c 27 "turns" (F 15) 0 ["row", "source"] [0, 2, 1] []
  me_Book_turns_2 : CMe c 27 "turns" (F 15) 2 [] [0, 1, 2] []
  c_FAR : KC c "FAR" v_FAR
  c_KINDS : KC c "KINDS" v_KINDS
  c_LETTERS : KC c "LETTERS" v_LETTERS
  c_MOST_COLUMNS : KC c "MOST_COLUMNS" v_MOST_COLUMNS
  c_MOST_LETTERS : KC c "MOST_LETTERS" v_MOST_LETTERS
  c_MOST_ROW : KC c "MOST_ROW" v_MOST_ROW
  c_MOST_SOURCES : KC c "MOST_SOURCES" v_MOST_SOURCES
  c_MOST_VERSION : KC c "MOST_VERSION" v_MOST_VERSION
  c_NUMBER : KC c "NUMBER" v_NUMBER
  c_SAY : KC c "SAY" v_SAY
  c_UNSAY : KC c "UNSAY" v_UNSAY
section
variable {c : Cn} {F : Nat → FM} {X : Cx}
theorem d_is_whole (E : Ev c F) (o : OkX c N_is_whole (defScope s_is_whole) allT X) : SSs c.M W0 X (defBody s_is_whole) (b_is_whole F) :=
  ss_one (ss_ret (se_and (w_isi o isiK_int bt_int (by decide +kernel) E.z_isinstance (by decide +kernel) E.z_int (w_lv o 0 (by decide +kernel)) rfl) (se_one (se_not (w_isi o isiK_bool bt_bool (by decide +kernel) E.z_isinstance (by decide +kernel) E.z_bool (w_lv o 0 (by decide +kernel)) rfl)))))
theorem d_is_within (E : Ev c F) (o : OkX c N_is_within (defScope s_is_within) allT X) : SSs c.M W0 X (defBody s_is_within) (b_is_within F) :=
  ss_one (ss_ret (se_and (w_call o E.cf_is_whole_1 (by decide +kernel) (sa_cons (w_lv o 0 (by decide +kernel)) (sa_nil) rfl) (sk_nil) rfl rfl) (se_one (w_chain o (w_lv o 1 (by decide +kernel)) (w_lv o 0 (by decide +kernel)) (w_lv o 2 (by decide +kernel)) rfl))))
theorem d_is_name (E : Ev c F) (o : OkX c N_is_name (defScope s_is_name) allT X) : SSs c.M W0 X (defBody s_is_name) (b_is_name F) :=
  ss_cons (ss_if (SW.st (sw_or (st_not (st_val (w_isi o isiK_str bt_str (by decide +kernel) E.z_isinstance (by decide +kernel) E.z_str (w_lv o 0 (by decide +kernel)) rfl) (fun _ => rfl))) (sw_or1 (st_not (w_tchain o (se_int) (w_bi o (len_ok o.g) bt_len (by decide +kernel) E.z_len (sa_cons (w_lv o 0 (by decide +kernel)) (sa_nil) rfl) rfl rfl) (w_const o E.c_MOST_LETTERS (by decide +kernel)) rfl))))) (ss_one (ss_ret (se_bl))) (ss_nil)) (ss_one (ss_ret (w_bi o (all_ok o.g) bt_all (by decide +kernel) E.z_all (sa_cons (se_new (w_comp o [("sign", 1)] (by decide +kernel) (w_ival o (w_lv o 0 (by decide +kernel))) (fun _ o => w_name o 1 (by decide +kernel)) (fun _ o => sts_nil) (fun _ o => w_cmp o (w_lv o 1 (by decide +kernel)) (w_const o E.c_LETTERS (by decide +kernel)) rfl) rfl (fun _ => rfl))) (sa_nil) rfl) rfl rfl)))
theorem d_is_moment (E : Ev c F) (o : OkX c N_is_moment (defScope s_is_moment) allT X) : SSs c.M W0 X (defBody s_is_moment) (b_is_moment F) :=
  ss_one (ss_ret (w_call o E.cf_is_within_3 (by decide +kernel) (sa_cons (w_lv o 0 (by decide +kernel)) (sa_cons (se_int) (sa_cons (w_const o E.c_FAR (by decide +kernel)) (sa_nil) rfl) rfl) rfl) (sk_nil) rfl rfl))
theorem d_is_cell (E : Ev c F) (o : OkX c N_is_cell (defScope s_is_cell) allT X) : SSs c.M W0 X (defBody s_is_cell) (b_is_cell F) :=
  ss_cons (ss_if (w_tcmp o (w_lv o 0 (by decide +kernel)) (se_non) (nomark _)) (ss_one (ss_ret (se_bl))) (ss_nil)) (ss_one (ss_ret (se_ife (w_tcmp o (w_lv o 1 (by decide +kernel)) (w_const o E.c_NUMBER (by decide +kernel)) (nomark _)) (w_call o E.cf_is_within_3 (by decide +kernel) (sa_cons (w_lv o 0 (by decide +kernel)) (sa_cons (w_neg o (w_const o E.c_FAR (by decide +kernel))) (sa_cons (w_const o E.c_FAR (by decide +kernel)) (sa_nil) rfl) rfl) rfl) (sk_nil) rfl rfl) (w_call o E.cf_is_name_1 (by decide +kernel) (sa_cons (w_lv o 0 (by decide +kernel)) (sa_nil) rfl) (sk_nil) rfl rfl))))
theorem d_are_pairs (E : Ev c F) (o : OkX c N_are_pairs (defScope s_are_pairs) allT X) : SSs c.M W0 X (defBody s_are_pairs) (b_are_pairs F) :=
  ss_cons (ss_if (SW.st (sw_or (st_not (st_val (w_isi o isiK_tuple bt_tuple (by decide +kernel) E.z_isinstance (by decide +kernel) E.z_tuple (w_lv o 0 (by decide +kernel)) rfl) (fun _ => rfl))) (sw_or1 (st_not (w_tchain o (se_int) (w_bi o (len_ok o.g) bt_len (by decide +kernel) E.z_len (sa_cons (w_lv o 0 (by decide +kernel)) (sa_nil) rfl) rfl rfl) (w_lv o 1 (by decide +kernel)) rfl))))) (ss_one (ss_ret (se_bl))) (ss_nil)) (ss_cons (ss_if (st_not (st_val (w_bi o (all_ok o.g) bt_all (by decide +kernel) E.z_all (sa_cons (se_new (w_comp o [("pair", 2)] (by decide +kernel) (w_ival o (w_lv o 0 (by decide +kernel))) (fun _ o => w_name o 2 (by decide +kernel)) (fun _ o => sts_nil) (fun _ o => se_and (w_isi o isiK_tuple bt_tuple (by decide +kernel) E.z_isinstance (by decide +kernel) E.z_tuple (w_lv o 2 (by decide +kernel)) rfl) (se_and (w_cmp o (w_bi o (len_ok o.g) bt_len (by decide +kernel) E.z_len (sa_cons (w_lv o 2 (by decide +kernel)) (sa_nil) rfl) rfl rfl) (se_int) (nomark _)) (se_one (w_call o E.cf_is_name_1 (by decide +kernel) (sa_cons (w_sub o (w_lv o 2 (by decide +kernel)) (se_int) (fun _ _ => rfl)) (sa_nil) rfl) (sk_nil) rfl rfl)))) rfl (fun _ => rfl))) (sa_nil) rfl) rfl rfl) (fun _ => rfl))) (ss_one (ss_ret (se_bl))) (ss_nil)) (ss_one (ss_ret (w_cmp o (w_setLen o (by decide +kernel) E.z_len [("name", 3), ("other", 4)] (by decide +kernel) (w_ival o (w_lv o 0 (by decide +kernel))) (fun _ o => w_tup o (sgs_cons (w_name o 3 (by decide +kernel)) (sgs_cons (w_name o 4 (by decide +kernel)) (sgs_nil) rfl) rfl) rfl rfl) (fun _ o => sts_nil) (fun _ o => w_lv o 3 (by decide +kernel)) rfl (fun _ => rfl) rfl) (w_bi o (len_ok o.g) bt_len (by decide +kernel) E.z_len (sa_cons (w_lv o 0 (by decide +kernel)) (sa_nil) rfl) rfl rfl) (nomark _)))))
theorem d_are_columns (E : Ev c F) (o : OkX c N_are_columns (defScope s_are_columns) allT X) : SSs c.M W0 X (defBody s_are_columns) (b_are_columns F) :=
  ss_one (ss_ret (se_and (w_call o E.cf_are_pairs_2 (by decide +kernel) (sa_cons (w_lv o 0 (by decide +kernel)) (sa_cons (w_const o E.c_MOST_COLUMNS (by decide +kernel)) (sa_nil) rfl) rfl) (sk_nil) rfl rfl) (se_one (w_bi o (all_ok o.g) bt_all (by decide +kernel) E.z_all (sa_cons (se_new (w_comp o [("name", 1), ("kind", 2)] (by decide +kernel) (w_ival o (w_lv o 0 (by decide +kernel))) (fun _ o => w_tup o (sgs_cons (w_name o 1 (by decide +kernel)) (sgs_cons (w_name o 2 (by decide +kernel)) (sgs_nil) rfl) rfl) rfl rfl) (fun _ o => sts_nil) (fun _ o => se_and (w_isi o isiK_str bt_str (by decide +kernel) E.z_isinstance (by decide +kernel) E.z_str (w_lv o 2 (by decide +kernel)) rfl) (se_one (w_cmp o (w_lv o 2 (by decide +kernel)) (w_const o E.c_KINDS (by decide +kernel)) rfl))) rfl (fun _ => rfl))) (sa_nil) rfl) rfl rfl))))
theorem d_are_sources (E : Ev c F) (o : OkX c N_are_sources (defScope s_are_sources) allT X) : SSs c.M W0 X (defBody s_are_sources) (b_are_sources F) :=
  ss_one (ss_ret (se_and (w_call o E.cf_are_pairs_2 (by decide +kernel) (sa_cons (w_lv o 0 (by decide +kernel)) (sa_cons (w_const o E.c_MOST_SOURCES (by decide +kernel)) (sa_nil) rfl) rfl) (sk_nil) rfl rfl) (se_one (w_bi o (all_ok o.g) bt_all (by decide +kernel) E.z_all (sa_cons (se_new (w_comp o [("name", 1), ("columns", 2)] (by decide +kernel) (w_ival o (w_lv o 0 (by decide +kernel))) (fun _ o => w_tup o (sgs_cons (w_name o 1 (by decide +kernel)) (sgs_cons (w_name o 2 (by decide +kernel)) (sgs_nil) rfl) rfl) rfl rfl) (fun _ o => sts_nil) (fun _ o => w_call o E.cf_are_columns_1 (by decide +kernel) (sa_cons (w_lv o 2 (by decide +kernel)) (sa_nil) rfl) (sk_nil) rfl rfl) rfl (fun _ => rfl))) (sa_nil) rfl) rfl rfl))))
theorem d_are_cells (E : Ev c F) (o : OkX c N_are_cells (defScope s_are_cells) allT X) : SSs c.M W0 X (defBody s_are_cells) (b_are_cells F) :=
  ss_cons (ss_if (SW.st (sw_or (st_not (st_val (w_isi o isiK_tuple bt_tuple (by decide +kernel) E.z_isinstance (by decide +kernel) E.z_tuple (w_lv o 1 (by decide +kernel)) rfl) (fun _ => rfl))) (sw_or1 (w_tcmp o (w_bi o (len_ok o.g) bt_len (by decide +kernel) E.z_len (sa_cons (w_lv o 1 (by decide +kernel)) (sa_nil) rfl) rfl rfl) (w_bi o (len_ok o.g) bt_len (by decide +kernel) E.z_len (sa_cons (w_lv o 0 (by decide +kernel)) (sa_nil) rfl) rfl rfl) (nomark _))))) (ss_one (ss_ret (se_bl))) (ss_nil)) (ss_one (ss_ret (w_bi o (all_ok o.g) bt_all (by decide +kernel) E.z_all (sa_cons (se_new (w_comp o [("name", 2), ("kind", 3), ("cell", 4)] (by decide +kernel) (w_zipS o (by decide +kernel) E.z_zip (w_lv o 0 (by decide +kernel)) (w_lv o 1 (by decide +kernel)) rfl rfl) (fun _ o => w_tup o (sgs_cons (w_tup o (sgs_cons (w_name o 2 (by decide +kernel)) (sgs_cons (w_name o 3 (by decide +kernel)) (sgs_nil) rfl) rfl) rfl rfl) (sgs_cons (w_name o 4 (by decide +kernel)) (sgs_nil) rfl) rfl) rfl rfl) (fun _ o => sts_nil) (fun _ o => w_call o E.cf_is_cell_2 (by decide +kernel) (sa_cons (w_lv o 4 (by decide +kernel)) (sa_cons (w_lv o 3 (by decide +kernel)) (sa_nil) rfl) rfl) (sk_nil) rfl rfl) rfl (fun _ => rfl))) (sa_nil) rfl) rfl rfl)))
theorem d_is_letter (E : Ev c F) (o : OkX c N_is_letter (defScope s_is_letter) allT X) : SSs c.M W0 X (defBody s_is_letter) (b_is_letter F) :=
  ss_cons (ss_if (SW.st (sw_or (st_not (st_val (w_isi o isiK_tuple bt_tuple (by decide +kernel) E.z_isinstance (by decide +kernel) E.z_tuple (w_lv o 1 (by decide +kernel)) rfl) (fun _ => rfl))) (sw_or (w_tcmp o (w_bi o (len_ok o.g) bt_len (by decide +kernel) E.z_len (sa_cons (w_lv o 1 (by decide +kernel)) (sa_nil) rfl) rfl rfl) (se_tup (sa_cons (se_int) (sa_cons (se_int) (sa_nil) rfl) rfl)) rfl) (sw_or1 (st_not (st_val (w_isi o isiK_str bt_str (by decide +kernel) E.z_isinstance (by decide +kernel) E.z_str (w_sub o (w_lv o 1 (by decide +kernel)) (se_int) (fun _ _ => rfl)) rfl) (fun _ => rfl))))))) (ss_one (ss_ret (se_bl))) (ss_nil)) (ss_cons (ss_asg (w_lv o 1 (by decide +kernel)) (w_star o (sgs_cons (w_name o 2 (by decide +kernel)) (sgs_cons (w_name o 3 (by decide +kernel)) (sgs_cons (w_name o 4 (by decide +kernel)) (sgs_cons (w_name o 5 (by decide +kernel)) (sgs_star (w_name o 6 (by decide +kernel)) (sgs_nil) rfl) rfl) rfl) rfl) rfl) (by decide) rfl rfl) rfl rfl rfl) (ss_cons (w_setDComp o 7 (by decide +kernel) rfl (by decide +kernel) [("name", 11), ("columns", 12)] (by decide +kernel) (w_ival o (w_lv o 0 (by decide +kernel))) (fun _ o => w_tup o (sgs_cons (w_name o 11 (by decide +kernel)) (sgs_cons (w_name o 12 (by decide +kernel)) (sgs_nil) rfl) rfl) rfl rfl) (fun _ o => sts_nil) (fun _ o => w_lv o 11 (by decide +kernel)) (fun _ o => w_lv o 12 (by decide +kernel)) rfl (fun _ => rfl)) (ss_cons (ss_if (SW.st (sw_or (w_tcmp o (w_lv o 2 (by decide +kernel)) (se_ife (w_tcmp o (w_lv o 6 (by decide +kernel)) (se_new (sf_lst (sa_nil))) (nomark _)) (w_const o E.c_SAY (by decide +kernel)) (w_const o E.c_UNSAY (by decide +kernel))) (nomark _)) (sw_or (st_not (st_val (w_isi o isiK_str bt_str (by decide +kernel) E.z_isinstance (by decide +kernel) E.z_str (w_lv o 3 (by decide +kernel)) rfl) (fun _ => rfl))) (sw_or1 (w_tdnotin o (w_lv o 3 (by decide +kernel)) (w_lv o 7 (by decide +kernel)) rfl))))) (ss_one (ss_ret (se_bl))) (ss_nil)) (ss_cons (ss_if (SW.st (sw_or (st_not (st_val (w_call o E.cf_is_within_3 (by decide +kernel) (sa_cons (w_lv o 4 (by decide +kernel)) (sa_cons (se_int) (sa_cons (w_const o E.c_MOST_ROW (by decide +kernel)) (sa_nil) rfl) rfl) rfl) (sk_nil) rfl rfl) (fun _ => rfl))) (sw_or1 (st_not (st_val (w_call o E.cf_is_within_3 (by decide +kernel) (sa_cons (w_lv o 5 (by decide +kernel)) (sa_cons (se_int) (sa_cons (w_const o E.c_MOST_VERSION (by decide +kernel)) (sa_nil) rfl) rfl) rfl) (sk_nil) rfl rfl) (fun _ => rfl)))))) (ss_one (ss_ret (se_bl))) (ss_nil)) (ss_cons (ss_if (w_tcmp o (w_lv o 6 (by decide +kernel)) (se_new (sf_lst (sa_nil))) (nomark _)) (ss_one (ss_ret (se_bl))) (ss_nil)) (ss_cons (ss_asg (w_lv o 6 (by decide +kernel)) (w_seq o (sgs_cons (w_name o 8 (by decide +kernel)) (sgs_cons (w_name o 9 (by decide +kernel)) (sgs_cons (w_name o 10 (by decide +kernel)) (sgs_nil) rfl) rfl) rfl) rfl rfl) rfl rfl rfl) (ss_one (ss_ret (se_and (w_call o E.cf_is_name_1 (by decide +kernel) (sa_cons (w_lv o 8 (by decide +kernel)) (sa_nil) rfl) (sk_nil) rfl rfl) (se_and (w_call o E.cf_is_moment_1 (by decide +kernel) (sa_cons (w_lv o 9 (by decide +kernel)) (sa_nil) rfl) (sk_nil) rfl rfl) (se_one (w_call o E.cf_are_cells_2 (by decide +kernel) (sa_cons (w_dget o (w_lv o 7 (by decide +kernel)) (w_lv o 3 (by decide +kernel)) (fun _ _ => rfl)) (sa_cons (w_lv o 10 (by decide +kernel)) (sa_nil) rfl) rfl) (sk_nil) rfl rfl))))))))))))
theorem d_letter_weight (E : Ev c F) (o : OkX c N_letter_weight (defScope s_letter_weight) allT X) : SSs c.M W0 X (defBody s_letter_weight) (b_letter_weight F) :=
  ss_cons (ss_asg (w_lv o 0 (by decide +kernel)) (w_star o (sgs_cons (w_name o 1 (by decide +kernel)) (sgs_cons (w_name o 2 (by decide +kernel)) (sgs_cons (w_name o 3 (by decide +kernel)) (sgs_cons (w_name o 4 (by decide +kernel)) (sgs_star (w_name o 5 (by decide +kernel)) (sgs_nil) rfl) rfl) rfl) rfl) rfl) (by decide) rfl rfl) rfl rfl rfl) (ss_cons (ss_if (w_tcmp o (w_lv o 1 (by decide +kernel)) (w_const o E.c_UNSAY (by decide +kernel)) (nomark _)) (ss_one (ss_ret (se_tup (sa_cons (w_lv o 4 (by decide +kernel)) (sa_cons (se_int) (sa_nil) rfl) rfl)))) (ss_nil)) (ss_cons (ss_asg (w_lv o 5 (by decide +kernel)) (w_seq o (sgs_cons (w_name o 6 (by decide +kernel)) (sgs_cons (w_name o 7 (by decide +kernel)) (sgs_cons (w_name o 8 (by decide +kernel)) (sgs_nil) rfl) rfl) rfl) rfl rfl) rfl rfl rfl) (ss_one (ss_ret (se_tup (sa_cons (w_lv o 4 (by decide +kernel)) (sa_cons (se_int) (sa_cons (w_lv o 6 (by decide +kernel)) (sa_cons (w_lv o 7 (by decide +kernel)) (sa_cons (w_ty o (tuple_ok o.g) bt_tuple (by decide +kernel) E.z_tuple (sa_cons (se_new (w_comp o [("cell", 9)] (by decide +kernel) (w_ival o (w_lv o 8 (by decide +kernel))) (fun _ o => w_name o 9 (by decide +kernel)) (fun _ o => sts_nil) (fun _ o => se_ife (w_tcmp o (w_lv o 9 (by decide +kernel)) (se_non) (nomark _)) (se_tup (sa_cons (se_int) (sa_cons (se_int) (sa_nil) rfl) rfl)) (se_tup (sa_cons (se_int) (sa_cons (w_lv o 9 (by decide +kernel)) (sa_nil) rfl) rfl))) rfl (fun _ => rfl))) (sa_nil) rfl) rfl rfl) (sa_nil) rfl) rfl) rfl) rfl) rfl))))))
theorem d_Book___init__ (E : Ev c F) (o : OkX c N_Book___init__ (defScope s_Book___init__) allT X) : SSs c.M W0 X (defBody s_Book___init__) (b_Book___init__ F) :=
  ss_cons (ss_if (st_not (st_val (w_call o E.cf_are_sources_1 (by decide +kernel) (sa_cons (w_lv o 1 (by decide +kernel)) (sa_nil) rfl) (sk_nil) rfl rfl) (fun _ => rfl))) (ss_one (ss_never)) (ss_nil)) (ss_cons (w_setFld o E.fd_Book_sources (w_lv o 0 (by decide +kernel)) (w_lv o 1 (by decide +kernel)) rfl) (ss_cons (w_setFld o E.fd_Book_turned (w_lv o 0 (by decide +kernel)) (w_dcomp o [("name", 2), ("columns", 3)] (by decide +kernel) (w_ival o (w_lv o 1 (by decide +kernel))) (fun _ o => w_tup o (sgs_cons (w_name o 2 (by decide +kernel)) (sgs_cons (w_name o 3 (by decide +kernel)) (sgs_nil) rfl) rfl) rfl rfl) (fun _ o => sts_nil) (fun _ o => w_lv o 2 (by decide +kernel)) (fun _ o => se_dict0) rfl (fun _ => rfl)) rfl) (ss_one (w_fld2 o E.fd_Book_ticks E.fd_Book_cut (se_int) (w_lv o 0 (by decide +kernel)) (w_lv o 0 (by decide +kernel)) rfl rfl))))
theorem d_Book_take (E : Ev c F) (o : OkX c N_Book_take (defScope s_Book_take) allT X) : SSs c.M W0 X (defBody s_Book_take) (b_Book_take F) :=
  ss_cons (ss_if (st_not (st_val (w_call o E.cf_is_letter_2 (by decide +kernel) (sa_cons (w_fld o E.fd_Book_sources (w_lv o 0 (by decide +kernel)) rfl) (sa_cons (w_lv o 1 (by decide +kernel)) (sa_nil) rfl) rfl) (sk_nil) rfl rfl) (fun _ => rfl))) (ss_one (ss_never)) (ss_nil)) (ss_cons (w_fldAdd o E.fd_Book_ticks (w_lv o 0 (by decide +kernel)) (se_int)) (ss_cons (ss_asg (w_lv o 1 (by decide +kernel)) (w_star o (sgs_cons (w_name o 2 (by decide +kernel)) (sgs_cons (w_name o 3 (by decide +kernel)) (sgs_cons (w_name o 4 (by decide +kernel)) (sgs_star (w_name o 5 (by decide +kernel)) (sgs_nil) rfl) rfl) rfl) rfl) (by decide) rfl rfl) rfl rfl rfl) (ss_cons (w_set o 6 (by decide +kernel) (w_dsetd o (w_dget o (w_fld o E.fd_Book_turned (w_lv o 0 (by decide +kernel)) rfl) (w_lv o 3 (by decide +kernel)) (fun _ _ => rfl)) (w_lv o 4 (by decide +kernel)) (se_alloc (sf_lst (sa_nil))) ⟨rfl, rfl, rfl, rfl⟩) rfl) (ss_cons (w_set o 7 (by decide +kernel) (se_or (w_cmp o (w_lv o 6 (by decide +kernel)) (se_alloc (sf_lst (sa_nil))) (nomark _)) (se_one (w_ltT o (w_call o E.cf_letter_weight_1 (by decide +kernel) (sa_cons (w_sub o (w_sub o (w_lv o 6 (by decide +kernel)) (w_neg o (se_int)) (fun _ _ => rfl)) (se_int) (fun _ _ => rfl)) (sa_nil) rfl) (sk_nil) rfl rfl) (w_call o E.cf_letter_weight_1 (by decide +kernel) (sa_cons (w_lv o 1 (by decide +kernel)) (sa_nil) rfl) (sk_nil) rfl rfl) (nomark _)))) rfl) (ss_cons (ss_if (st_val (w_lv o 7 (by decide +kernel)) (fun _ => rfl)) (ss_one (w_locApp o (w_lv o 6 (by decide +kernel)) (se_tup (sa_cons (w_fld o E.fd_Book_ticks (w_lv o 0 (by decide +kernel)) rfl) (sa_cons (w_lv o 1 (by decide +kernel)) (sa_nil) rfl) rfl)) rfl rfl rfl)) (ss_nil)) (ss_one (ss_ret (se_tup (sa_cons (w_fld o E.fd_Book_ticks (w_lv o 0 (by decide +kernel)) rfl) (sa_cons (w_lv o 7 (by decide +kernel)) (sa_nil) rfl) rfl)))))))))
theorem d_Book_rows_of (E : Ev c F) (o : OkX c N_Book_rows_of (defScope s_Book_rows_of) allT X) : SSs c.M W0 X (defBody s_Book_rows_of) (b_Book_rows_of F) :=
  ss_cons (ss_if (w_tdnotin o (w_lv o 1 (by decide +kernel)) (w_fld o E.fd_Book_turned (w_lv o 0 (by decide +kernel)) rfl) rfl) (ss_one (ss_never)) (ss_nil)) (ss_one (ss_ret (w_dget o (w_fld o E.fd_Book_turned (w_lv o 0 (by decide +kernel)) rfl) (w_lv o 1 (by decide +kernel)) (fun _ _ => rfl))))
theorem d_Book_turns (E : Ev c F) (o : OkX c N_Book_turns (defScope s_Book_turns) allT X) : SSs c.M W0 X (defBody s_Book_turns) (b_Book_turns F) :=
  ss_one (ss_ret (se_alloc (w_tyF o (list_ok o.g) bt_list (by decide +kernel) E.z_list (sa_cons (w_dget2 o (w_meth o E.me_Book_rows_of_1 (w_lv o 0 (by decide +kernel)) (sa_cons (w_lv o 1 (by decide +kernel)) (sa_nil) rfl) (sk_nil) rfl rfl rfl) (w_lv o 2 (by decide +kernel)) (se_new (sf_lst (sa_nil))) ⟨rfl, rfl, rfl, rfl⟩) (sa_nil) rfl) rfl rfl)))
theorem d__law_bag (E : Ev c F) (o : OkX c N__law_bag (defScope s__law_bag) allT X) : SSs c.M W0 X (defBody s__law_bag) (b__law_bag F) :=
  ss_cons (w_set o 2 (by decide +kernel) (se_int) rfl) (ss_cons (ss_if (w_tcmp o (w_lv o 1 (by decide +kernel)) (w_bi o (len_ok o.g) bt_len (by decide +kernel) E.z_len (sa_cons (w_lv o 0 (by decide +kernel)) (sa_nil) rfl) rfl rfl) (nomark _)) (ss_one (w_set o 2 (by decide +kernel) (w_bi o abs_ok bt_abs (by decide +kernel) E.z_abs (sa_cons (w_sub o (w_lv o 0 (by decide +kernel)) (w_lv o 1 (by decide +kernel)) (fun _ _ => rfl)) (sa_nil) rfl) rfl rfl) rfl)) (ss_nil)) (ss_cons (w_set o 3 (by decide +kernel) (w_sub o (se_new (sf_lst (sa_cons (se_int) (sa_cons (se_int) (sa_cons (se_int) (sa_cons (se_int) (sa_cons (se_int) (sa_cons (se_int) (sa_cons (se_int) (sa_cons (se_int) (sa_nil) rfl) rfl) rfl) rfl) rfl) rfl) rfl) rfl))) (w_bin o (w_lv o 1 (by decide +kernel)) (se_int)) (fun _ _ => rfl)) rfl) (ss_one (ss_ret (se_alloc (sf_lst (sa_cons (w_bin o (w_lv o 2 (by decide +kernel)) (w_ty o int_ok bt_int (by decide +kernel) E.z_int (sa_cons (w_cmp o (w_lv o 2 (by decide +kernel)) (w_bin o (se_int) (se_int)) (nomark _)) (sa_nil) rfl) rfl rfl)) (sa_cons (w_bin o (w_bin o (w_bin o (w_bin o (w_bin o (w_lv o 2 (by decide +kernel)) (se_int)) (w_bin o (se_int) (w_lv o 1 (by decide +kernel)))) (se_int)) (se_int)) (w_lv o 3 (by decide +kernel))) (sa_cons (w_lv o 3 (by decide +kernel)) (sa_cons (se_int) (sa_nil) rfl) rfl) rfl) rfl)))))))
theorem d__law_take (E : Ev c F) (o : OkX c N__law_take (defScope s__law_take) allT X) : SSs c.M W0 X (defBody s__law_take) (b__law_take F) :=
  ss_cons (ss_if (w_tcmp o (w_sub o (w_lv o 0 (by decide +kernel)) (se_int) (fun _ _ => rfl)) (se_int) (nomark _)) (ss_cons (w_set o 2 (by decide +kernel) (w_bin o (w_sub o (w_lv o 0 (by decide +kernel)) (se_int) (fun _ _ => rfl)) (w_lv o 1 (by decide +kernel))) rfl) (ss_cons (w_setIx o (w_bin o (w_sub o (w_lv o 0 (by decide +kernel)) (se_int) (fun _ _ => rfl)) (w_lv o 1 (by decide +kernel))) (w_lv o 0 (by decide +kernel)) (se_int) (fun _ => rfl) rfl rfl rfl) (ss_one (ss_ret (w_lv o 2 (by decide +kernel)))))) (ss_nil)) (ss_cons (w_setIx o (w_bin o (w_sub o (w_lv o 0 (by decide +kernel)) (se_int) (fun _ _ => rfl)) (se_int)) (w_lv o 0 (by decide +kernel)) (se_int) (fun _ => rfl) rfl rfl rfl) (ss_cons (w_setIx o (w_bin o (w_bin o (w_bin o (w_bin o (w_sub o (w_lv o 0 (by decide +kernel)) (se_int) (fun _ _ => rfl)) (se_int)) (w_bin o (se_int) (w_sub o (w_lv o 0 (by decide +kernel)) (se_int) (fun _ _ => rfl)))) (se_int)) (w_sub o (w_lv o 0 (by decide +kernel)) (se_int) (fun _ _ => rfl))) (w_lv o 0 (by decide +kernel)) (se_int) (fun _ => rfl) rfl rfl rfl) (ss_one (ss_ret (w_bin o (w_bin o (w_bin o (w_bin o (w_sub o (w_lv o 0 (by decide +kernel)) (se_int) (fun _ _ => rfl)) (se_int)) (se_int)) (se_int)) (w_lv o 1 (by decide +kernel)))))))
theorem d__law_sources (E : Ev c F) (o : OkX c N__law_sources (defScope s__law_sources) allT X) : SSs c.M W0 X (defBody s__law_sources) (b__law_sources F) :=
  ss_cons (w_set o 1 (by decide +kernel) (se_new (sf_lst (sa_cons (se_str) (sa_cons (se_str) (sa_nil) rfl) rfl))) rfl) (ss_cons (w_setOwn o 2 (by decide +kernel) (sf_lst (sa_cons (se_tup (sa_cons (se_str) (sa_cons (se_tup (sa_cons (se_tup (sa_cons (se_str) (sa_cons (se_str) (sa_nil) rfl) rfl)) (sa_cons (se_tup (sa_cons (se_str) (sa_cons (se_str) (sa_nil) rfl) rfl)) (sa_nil) rfl) rfl)) (sa_nil) rfl) rfl)) (sa_nil) rfl)) rfl) (ss_cons (w_for o (w_ival o (w_cut o (w_sub o (se_new (sf_lst (sa_cons (se_new (sf_lst (sa_cons (se_str) (sa_cons (se_str) (sa_nil) rfl) rfl))) (sa_cons (se_new (sf_lst (sa_cons (se_str) (sa_cons (se_str) (sa_nil) rfl) rfl))) (sa_cons (se_new (sf_lst (sa_cons (se_str) (sa_cons (se_str) (sa_nil) rfl) rfl))) (sa_nil) rfl) rfl) rfl))) (w_call o E.cf__law_take_2 (by decide +kernel) (sa_cons (w_lv o 0 (by decide +kernel)) (sa_cons (se_int) (sa_nil) rfl) rfl) (sk_nil) rfl rfl) (fun _ _ => rfl)) (so_none) (so_some (w_call o E.cf__law_take_2 (by decide +kernel) (sa_cons (w_lv o 0 (by decide +kernel)) (sa_cons (se_int) (sa_nil) rfl) rfl) (sk_nil) rfl rfl)))) (w_name o 3 (by decide +kernel)) (ss_cons (w_set o 4 (by decide +kernel) (w_sub o (se_new (sf_lst (sa_cons (se_new (sf_lst (sa_cons (se_str) (sa_cons (se_str) (sa_cons (se_str) (sa_nil) rfl) rfl) rfl))) (sa_cons (se_new (sf_lst (sa_cons (se_str) (sa_cons (se_str) (sa_cons (se_str) (sa_nil) rfl) rfl) rfl))) (sa_nil) rfl) rfl))) (w_call o E.cf__law_take_2 (by decide +kernel) (sa_cons (w_lv o 0 (by decide +kernel)) (sa_cons (se_int) (sa_nil) rfl) rfl) (sk_nil) rfl rfl) (fun _ _ => rfl)) rfl) (ss_one (w_ownApp o 2 (by decide +kernel) (se_tup (sa_cons (w_lv o 3 (by decide +kernel)) (sa_cons (w_ty o (tuple_ok o.g) bt_tuple (by decide +kernel) E.z_tuple (sa_cons (se_new (w_comp o [("_law_k", 5)] (by decide +kernel) (w_range1 o (by decide +kernel) E.z_range (w_bin o (se_int) (w_call o E.cf__law_take_2 (by decide +kernel) (sa_cons (w_lv o 0 (by decide +kernel)) (sa_cons (se_int) (sa_nil) rfl) rfl) (sk_nil) rfl rfl)) rfl) (fun _ o => w_name o 5 (by decide +kernel)) (fun _ o => sts_nil) (fun _ o => se_tup (sa_cons (w_sub o (w_lv o 4 (by decide +kernel)) (w_lv o 5 (by decide +kernel)) (fun _ _ => rfl)) (sa_cons (w_sub o (w_lv o 1 (by decide +kernel)) (w_call o E.cf__law_take_2 (by decide +kernel) (sa_cons (w_lv o 0 (by decide +kernel)) (sa_cons (se_int) (sa_nil) rfl) rfl) (sk_nil) rfl rfl) (fun _ _ => rfl)) (sa_nil) rfl) rfl)) rfl (fun _ => rfl))) (sa_nil) rfl) rfl rfl) (sa_nil) rfl) rfl)) rfl rfl))) (fun _ => rfl)) (ss_freeze (i := 2) (ss_one (ss_ret (w_ty o (tuple_ok o.g) bt_tuple (by decide +kernel) E.z_tuple (sa_cons (w_lv o 2 (by decide +kernel)) (sa_nil) rfl) rfl rfl))))))
theorem d__law_key (E : Ev c F) (o : OkX c N__law_key (defScope s__law_key) allT X) : SSs c.M W0 X (defBody s__law_key) (b__law_key F) :=
  ss_one (ss_ret (w_sub o (se_new (sf_lst (sa_cons (se_str) (sa_cons (se_str) (sa_cons (se_str) (sa_cons (se_str) (sa_nil) rfl) rfl) rfl) rfl))) (w_call o E.cf__law_take_2 (by decide +kernel) (sa_cons (w_lv o 0 (by decide +kernel)) (sa_cons (se_int) (sa_nil) rfl) rfl) (sk_nil) rfl rfl) (fun _ _ => rfl)))
theorem d__law_moment (E : Ev c F) (o : OkX c N__law_moment (defScope s__law_moment) allT X) : SSs c.M W0 X (defBody s__law_moment) (b__law_moment F) :=
  ss_one (ss_ret (w_sub o (se_new (sf_lst (sa_cons (w_call o E.cf__law_take_2 (by decide +kernel) (sa_cons (w_lv o 0 (by decide +kernel)) (sa_cons (se_int) (sa_nil) rfl) rfl) (sk_nil) rfl rfl) (sa_cons (w_call o E.cf__law_take_2 (by decide +kernel) (sa_cons (w_lv o 0 (by decide +kernel)) (sa_cons (se_int) (sa_nil) rfl) rfl) (sk_nil) rfl rfl) (sa_cons (w_call o E.cf__law_take_2 (by decide +kernel) (sa_cons (w_lv o 0 (by decide +kernel)) (sa_cons (w_bin o (w_bin o (se_int) (se_int)) (se_int)) (sa_nil) rfl) rfl) (sk_nil) rfl rfl) (sa_nil) rfl) rfl) rfl))) (w_bin o (w_call o E.cf__law_take_2 (by decide +kernel) (sa_cons (w_lv o 0 (by decide +kernel)) (sa_cons (se_int) (sa_nil) rfl) rfl) (sk_nil) rfl rfl) (se_int)) (fun _ _ => rfl)))
theorem d__law_cell (E : Ev c F) (o : OkX c N__law_cell (defScope s__law_cell) allT X) : SSs c.M W0 X (defBody s__law_cell) (b__law_cell F) :=
  ss_cons (ss_if (w_tcmp o (w_call o E.cf__law_take_2 (by decide +kernel) (sa_cons (w_lv o 0 (by decide +kernel)) (sa_cons (se_int) (sa_nil) rfl) rfl) (sk_nil) rfl rfl) (se_int) (nomark _)) (ss_one (ss_ret (se_non))) (ss_nil)) (ss_cons (ss_if (w_tcmp o (w_lv o 1 (by decide +kernel)) (se_str) (nomark _)) (ss_one (ss_ret (w_call o E.cf__law_key_1 (by decide +kernel) (sa_cons (w_lv o 0 (by decide +kernel)) (sa_nil) rfl) (sk_nil) rfl rfl))) (ss_nil)) (ss_one (ss_ret (w_sub o (se_new (sf_lst (sa_cons (w_bin o (w_call o E.cf__law_take_2 (by decide +kernel) (sa_cons (w_lv o 0 (by decide +kernel)) (sa_cons (se_int) (sa_nil) rfl) rfl) (sk_nil) rfl rfl) (se_int)) (sa_cons (w_bin o (w_call o E.cf__law_take_2 (by decide +kernel) (sa_cons (w_lv o 0 (by decide +kernel)) (sa_cons (w_bin o (w_bin o (se_int) (w_bin o (se_int) (se_int))) (se_int)) (sa_nil) rfl) rfl) (sk_nil) rfl rfl) (w_bin o (se_int) (se_int))) (sa_nil) rfl) rfl))) (w_bin o (w_call o E.cf__law_take_2 (by decide +kernel) (sa_cons (w_lv o 0 (by decide +kernel)) (sa_cons (se_int) (sa_nil) rfl) rfl) (sk_nil) rfl rfl) (se_int)) (fun _ _ => rfl)))))
theorem d__law_letter (E : Ev c F) (o : OkX c N__law_letter (defScope s__law_letter) allT X) : SSs c.M W0 X (defBody s__law_letter) (b__law_letter F) :=
  ss_cons (ss_asg (w_sub o (w_lv o 1 (by decide +kernel)) (w_call o E.cf__law_take_2 (by decide +kernel) (sa_cons (w_lv o 0 (by decide +kernel)) (sa_cons (w_bi o (len_ok o.g) bt_len (by decide +kernel) E.z_len (sa_cons (w_lv o 1 (by decide +kernel)) (sa_nil) rfl) rfl rfl) (sa_nil) rfl) rfl) (sk_nil) rfl rfl) (fun _ _ => rfl)) (w_seq o (sgs_cons (w_name o 2 (by decide +kernel)) (sgs_cons (w_name o 3 (by decide +kernel)) (sgs_nil) rfl) rfl) rfl rfl) rfl rfl rfl) (ss_cons (w_par2 o 4 5 (by decide +kernel) (by decide +kernel) (by decide) (by decide +kernel) (by decide +kernel) (sa_cons (w_bin o (se_int) (w_call o E.cf__law_take_2 (by decide +kernel) (sa_cons (w_lv o 0 (by decide +kernel)) (sa_cons (se_int) (sa_nil) rfl) rfl) (sk_nil) rfl rfl)) (sa_cons (w_bin o (se_int) (w_call o E.cf__law_take_2 (by decide +kernel) (sa_cons (w_lv o 0 (by decide +kernel)) (sa_cons (se_int) (sa_nil) rfl) rfl) (sk_nil) rfl rfl)) (sa_nil) rfl) rfl) rfl (by decide +kernel)) (ss_cons (ss_if (w_tcmp o (w_call o E.cf__law_take_2 (by decide +kernel) (sa_cons (w_lv o 0 (by decide +kernel)) (sa_cons (se_int) (sa_nil) rfl) rfl) (sk_nil) rfl rfl) (se_int) (nomark _)) (ss_one (ss_ret (se_tup (sa_cons (se_str) (sa_cons (w_lv o 2 (by decide +kernel)) (sa_cons (w_lv o 4 (by decide +kernel)) (sa_cons (w_lv o 5 (by decide +kernel)) (sa_nil) rfl) rfl) rfl) rfl)))) (ss_nil)) (ss_cons (w_set o 6 (by decide +kernel) (w_ty o (tuple_ok o.g) bt_tuple (by decide +kernel) E.z_tuple (sa_cons (se_new (w_comp o [("_law_column", 7), ("_law_kind", 8)] (by decide +kernel) (w_ival o (w_lv o 3 (by decide +kernel))) (fun _ o => w_tup o (sgs_cons (w_name o 7 (by decide +kernel)) (sgs_cons (w_name o 8 (by decide +kernel)) (sgs_nil) rfl) rfl) rfl rfl) (fun _ o => sts_nil) (fun _ o => w_call o E.cf__law_cell_2 (by decide +kernel) (sa_cons (w_lv o 0 (by decide +kernel)) (sa_cons (w_lv o 8 (by decide +kernel)) (sa_nil) rfl) rfl) (sk_nil) rfl rfl) rfl (fun _ => rfl))) (sa_nil) rfl) rfl rfl) rfl) (ss_one (ss_ret (se_tup (sa_cons (se_str) (sa_cons (w_lv o 2 (by decide +kernel)) (sa_cons (w_lv o 4 (by decide +kernel)) (sa_cons (w_lv o 5 (by decide +kernel)) (sa_cons (w_call o E.cf__law_key_1 (by decide +kernel) (sa_cons (w_lv o 0 (by decide +kernel)) (sa_nil) rfl) (sk_nil) rfl rfl) (sa_cons (w_call o E.cf__law_moment_1 (by decide +kernel) (sa_cons (w_lv o 0 (by decide +kernel)) (sa_nil) rfl) (sk_nil) rfl rfl) (sa_cons (w_lv o 6 (by decide +kernel)) (sa_nil) rfl) rfl) rfl) rfl) rfl) rfl) rfl)))))))
theorem d__law_letters (E : Ev c F) (o : OkX c N__law_letters (defScope s__law_letters) allT X) : SSs c.M W0 X (defBody s__law_letters) (b__law_letters F) :=
  ss_cons (w_setOwn o 3 (by decide +kernel) (sf_lst (sa_nil)) rfl) (ss_cons (w_for o (w_range1 o (by decide +kernel) E.z_range (w_call o E.cf__law_take_2 (by decide +kernel) (sa_cons (w_lv o 0 (by decide +kernel)) (sa_cons (w_bin o (w_lv o 2 (by decide +kernel)) (se_int)) (sa_nil) rfl) rfl) (sk_nil) rfl rfl) rfl) (w_name o 4 (by decide +kernel)) (ss_one (ss_if (SW.st (sw_and (st_bor (i := 3) (w_tcmp o (w_lv o 3 (by decide +kernel)) (se_new (sf_lst (sa_nil))) (nomark _))) (sw_and1 (w_tcmp o (w_call o E.cf__law_take_2 (by decide +kernel) (sa_cons (w_lv o 0 (by decide +kernel)) (sa_cons (se_int) (sa_nil) rfl) rfl) (sk_nil) rfl rfl) (se_int) (nomark _))))) (ss_one (w_ownApp o 3 (by decide +kernel) (w_ownSub o 3 (by decide +kernel) (w_call o E.cf__law_take_2 (by decide +kernel) (sa_cons (w_lv o 0 (by decide +kernel)) (sa_cons (se_bor (i := 3) (w_bi o (len_ok o.g) bt_len (by decide +kernel) E.z_len (sa_cons (w_lv o 3 (by decide +kernel)) (sa_nil) rfl) rfl rfl)) (sa_nil) rfl) rfl) (sk_nil) rfl rfl) (fun _ _ => rfl)) rfl rfl)) (ss_one (w_ownApp o 3 (by decide +kernel) (w_call o E.cf__law_letter_2 (by decide +kernel) (sa_cons (w_lv o 0 (by decide +kernel)) (sa_cons (w_lv o 1 (by decide +kernel)) (sa_nil) rfl) rfl) (sk_nil) rfl rfl) rfl rfl)))) (fun _ => rfl)) (ss_freeze (i := 3) (ss_one (ss_ret (w_lv o 3 (by decide +kernel))))))
theorem d__law_less (E : Ev c F) (o : OkX c N__law_less (defScope s__law_less) allT X) : SSs c.M W0 X (defBody s__law_less) (b__law_less F) :=
  ss_cons (ss_if (w_tcmp o (w_sub o (w_lv o 0 (by decide +kernel)) (se_int) (fun _ _ => rfl)) (w_sub o (w_lv o 1 (by decide +kernel)) (se_int) (fun _ _ => rfl)) (nomark _)) (ss_one (ss_ret (w_cmp o (w_sub o (w_lv o 0 (by decide +kernel)) (se_int) (fun _ _ => rfl)) (w_sub o (w_lv o 1 (by decide +kernel)) (se_int) (fun _ _ => rfl)) (nomark _)))) (ss_nil)) (ss_cons (ss_if (w_tcmp o (w_bi o (len_ok o.g) bt_len (by decide +kernel) E.z_len (sa_cons (w_lv o 0 (by decide +kernel)) (sa_nil) rfl) rfl rfl) (w_bi o (len_ok o.g) bt_len (by decide +kernel) E.z_len (sa_cons (w_lv o 1 (by decide +kernel)) (sa_nil) rfl) rfl rfl) (nomark _)) (ss_one (ss_ret (w_cmp o (w_bi o (len_ok o.g) bt_len (by decide +kernel) E.z_len (sa_cons (w_lv o 0 (by decide +kernel)) (sa_nil) rfl) rfl rfl) (w_bi o (len_ok o.g) bt_len (by decide +kernel) E.z_len (sa_cons (w_lv o 1 (by decide +kernel)) (sa_nil) rfl) rfl rfl) (nomark _)))) (ss_nil)) (ss_cons (ss_if (SW.st (sw_or (w_tcmp o (w_bi o (len_ok o.g) bt_len (by decide +kernel) E.z_len (sa_cons (w_lv o 0 (by decide +kernel)) (sa_nil) rfl) rfl rfl) (se_int) (nomark _)) (sw_or1 (w_tcmp o (w_cut o (w_lv o 0 (by decide +kernel)) (so_some (se_int)) (so_some (se_int))) (w_cut o (w_lv o 1 (by decide +kernel)) (so_some (se_int)) (so_some (se_int))) (nomark _))))) (ss_one (ss_ret (w_ltT o (w_cut o (w_lv o 0 (by decide +kernel)) (so_some (se_int)) (so_some (se_int))) (w_cut o (w_lv o 1 (by decide +kernel)) (so_some (se_int)) (so_some (se_int))) (nomark _)))) (ss_nil)) (ss_cons (w_for o (w_zipT o (by decide +kernel) E.z_zip (w_sub o (w_lv o 0 (by decide +kernel)) (se_int) (fun _ _ => rfl)) (w_sub o (w_lv o 1 (by decide +kernel)) (se_int) (fun _ _ => rfl)) rfl rfl) (w_tup o (sgs_cons (w_name o 2 (by decide +kernel)) (sgs_cons (w_name o 3 (by decide +kernel)) (sgs_nil) rfl) rfl) rfl rfl) (ss_one (ss_if (w_tcmp o (w_lv o 2 (by decide +kernel)) (w_lv o 3 (by decide +kernel)) (nomark _)) (ss_one (ss_ret (se_or (w_cmp o (w_lv o 2 (by decide +kernel)) (se_non) (nomark _)) (se_one (se_and (w_cmp o (w_lv o 3 (by decide +kernel)) (se_non) (nomark _)) (se_one (w_cmp o (w_lv o 2 (by decide +kernel)) (w_lv o 3 (by decide +kernel)) (nomark _)))))))) (ss_nil))) (fun _ => rfl)) (ss_one (ss_ret (se_bl))))))
theorem d__law_turns (E : Ev c F) (o : OkX c N__law_turns (defScope s__law_turns) allT X) : SSs c.M W0 X (defBody s__law_turns) (b__law_turns F) :=
  ss_cons (w_setOwn o 2 (by decide +kernel) (sf_lst (sa_nil)) rfl) (ss_cons (w_for o (w_enum o (by decide +kernel) E.z_enumerate (w_lv o 0 (by decide +kernel)) rfl) (w_tup o (sgs_cons (w_name o 3 (by decide +kernel)) (sgs_cons (w_name o 4 (by decide +kernel)) (sgs_nil) rfl) rfl) rfl rfl) (ss_one (ss_if (SW.st (sw_and (w_tcmp o (w_cut o (w_lv o 4 (by decide +kernel)) (so_some (se_int)) (so_some (se_int))) (w_lv o 1 (by decide +kernel)) (nomark _)) (sw_and1 (SW.st (sw_or (st_bor (i := 2) (w_tcmp o (w_lv o 2 (by decide +kernel)) (se_new (sf_lst (sa_nil))) (nomark _))) (sw_or1 (st_val (w_call o E.cf__law_less_2 (by decide +kernel) (sa_cons (w_sub o (se_bor (i := 2) (w_sub o (w_lv o 2 (by decide +kernel)) (w_neg o (se_int)) (fun _ _ => rfl))) (se_int) (fun _ _ => rfl)) (sa_cons (w_lv o 4 (by decide +kernel)) (sa_nil) rfl) rfl) (sk_nil) rfl rfl) (fun _ => rfl)))))))) (ss_one (w_ownApp o 2 (by decide +kernel) (se_tup (sa_cons (w_bin o (w_lv o 3 (by decide +kernel)) (se_int)) (sa_cons (w_lv o 4 (by decide +kernel)) (sa_nil) rfl) rfl)) rfl rfl)) (ss_nil))) (fun _ => rfl)) (ss_freeze (i := 2) (ss_one (ss_ret (w_lv o 2 (by decide +kernel))))))
theorem d_law (E : Ev c F) (o : OkX c N_law (defScope s_law) allT X) : SSs c.M W0 X (defBody s_law) (b_law F) :=
  ss_cons (w_for o (w_range1 o (by decide +kernel) E.z_range (w_bi o (max_ok o.g) bt_max (by decide +kernel) E.z_max (sa_cons (se_int) (sa_cons (w_bi o (min_ok o.g) bt_min (by decide +kernel) E.z_min (sa_cons (se_int) (sa_cons (w_bi o (len_ok o.g) bt_len (by decide +kernel) E.z_len (sa_cons (w_lv o 0 (by decide +kernel)) (sa_nil) rfl) rfl rfl) (sa_nil) rfl) rfl) rfl rfl) (sa_nil) rfl) rfl) rfl rfl) rfl) (w_name o 1 (by decide +kernel)) (ss_cons (w_set o 2 (by decide +kernel) (w_call o E.cf__law_bag_2 (by decide +kernel) (sa_cons (w_lv o 0 (by decide +kernel)) (sa_cons (w_lv o 1 (by decide +kernel)) (sa_nil) rfl) rfl) (sk_nil) rfl rfl) rfl) (ss_cons (w_set o 3 (by decide +kernel) (w_call o E.cf__law_sources_1 (by decide +kernel) (sa_cons (w_lv o 2 (by decide +kernel)) (sa_nil) rfl) (sk_nil) rfl rfl) rfl) (ss_cons (w_par2 o 4 5 (by decide +kernel) (by decide +kernel) (by decide) (by decide +kernel) (by decide +kernel) (sa_cons (w_make o E.mk_Book___init___1 (by decide +kernel) (sa_cons (w_lv o 3 (by decide +kernel)) (sa_nil) rfl) (sk_nil) rfl rfl) (sa_cons (w_call o E.cf__law_letters_3 (by decide +kernel) (sa_cons (w_lv o 2 (by decide +kernel)) (sa_cons (w_lv o 3 (by decide +kernel)) (sa_cons (se_int) (sa_nil) rfl) rfl) rfl) (sk_nil) rfl rfl) (sa_nil) rfl) rfl) rfl (by decide +kernel)) (ss_cons (w_for o (w_ival o (w_lv o 5 (by decide +kernel))) (w_name o 6 (by decide +kernel)) (ss_one (ss_expr (w_meth o E.me_Book_take_1 (w_lv o 4 (by decide +kernel)) (sa_cons (w_lv o 6 (by decide +kernel)) (sa_nil) rfl) (sk_nil) rfl rfl rfl) rfl)) (fun _ => rfl)) (ss_one (w_for o (w_ival o (w_lv o 3 (by decide +kernel))) (w_tup o (sgs_cons (w_name o 7 (by decide +kernel)) (sgs_cons (w_name o 8 (by decide +kernel)) (sgs_nil) rfl) rfl) rfl rfl) (ss_one (w_for o (w_ival o (se_new (sf_lst (sa_cons (se_int) (sa_cons (se_int) (sa_cons (se_int) (sa_cons (se_int) (sa_cons (se_int) (sa_cons (se_int) (sa_cons (se_int) (sa_cons (se_int) (sa_nil) rfl) rfl) rfl) rfl) rfl) rfl) rfl) rfl)))) (w_name o 9 (by decide +kernel)) (ss_cons (w_set o 10 (by decide +kernel) (w_call o E.cf__law_turns_2 (by decide +kernel) (sa_cons (w_lv o 5 (by decide +kernel)) (sa_cons (se_tup (sa_cons (w_lv o 7 (by decide +kernel)) (sa_cons (w_lv o 9 (by decide +kernel)) (sa_nil) rfl) rfl)) (sa_nil) rfl) rfl) (sk_nil) rfl rfl) rfl) (ss_cons (w_set o 11 (by decide +kernel) (w_meth o E.me_Book_turns_2 (w_lv o 4 (by decide +kernel)) (sa_cons (w_lv o 7 (by decide +kernel)) (sa_cons (w_lv o 9 (by decide +kernel)) (sa_nil) rfl) rfl) (sk_nil) rfl rfl rfl) rfl) (ss_cons (ss_if (SW.st (sw_or (st_not (st_val (w_isi o isiK_list bt_list (by decide +kernel) E.z_isinstance (by decide +kernel) E.z_list (w_lv o 11 (by decide +kernel)) rfl) (fun _ => rfl))) (sw_or1 (w_tcmp o (w_bi o (repr_ok o.g) bt_repr (by decide +kernel) E.z_repr (sa_cons (w_lv o 11 (by decide +kernel)) (sa_nil) rfl) rfl rfl) (w_bi o (repr_ok o.g) bt_repr (by decide +kernel) E.z_repr (sa_cons (w_lv o 10 (by decide +kernel)) (sa_nil) rfl) rfl rfl) (nomark _))))) (ss_one (ss_ret (se_bl))) (ss_nil)) (ss_cons (w_locClr o (w_lv o 11 (by decide +kernel)) rfl rfl) (ss_one (ss_if (w_tcmp o (w_meth o E.me_Book_turns_0_row_source (w_lv o 4 (by decide +kernel)) (sa_nil) (sk_cons (w_lv o 9 (by decide +kernel)) (sk_cons (w_lv o 7 (by decide +kernel)) (sk_nil))) rfl rfl rfl) (w_lv o 10 (by decide +kernel)) (nomark _)) (ss_one (ss_ret (se_bl))) (ss_nil))))))) (fun _ => rfl))) (fun _ => rfl))))))) (fun _ => rfl)) (ss_one (ss_ret (se_bl)))
end
structure Img (K : PySem.W.Frag) (mg : Str → Option Value) (wo : World) where
  f1 : Addr
  fd1 : FuncData
  F1 : FunD K "is_whole" "is_whole" (defArgs s_is_whole) (defBody s_is_whole) (defScope s_is_whole) [] [] f1 fd1
  g1 : mg "is_whole" = some (.ref f1)
  f2 : Addr
  fd2 : FuncData
  F2 : FunD K "is_within" "is_within" (defArgs s_is_within) (defBody s_is_within) (defScope s_is_within) [] [] f2 fd2
  g2 : mg "is_within" = some (.ref f2)
  f3 : Addr
  fd3 : FuncData
  F3 : FunD K "is_name" "is_name" (defArgs s_is_name) (defBody s_is_name) (defScope s_is_name) [] [] f3 fd3
  g3 : mg "is_name" = some (.ref f3)
  f4 : Addr
  fd4 : FuncData
  F4 : FunD K "is_moment" "is_moment" (defArgs s_is_moment) (defBody s_is_moment) (defScope s_is_moment) [] [] f4 fd4
  g4 : mg "is_moment" = some (.ref f4)
  f5 : Addr
  fd5 : FuncData
  F5 : FunD K "is_cell" "is_cell" (defArgs s_is_cell) (defBody s_is_cell) (defScope s_is_cell) [] [] f5 fd5
  g5 : mg "is_cell" = some (.ref f5)
  f6 : Addr
  fd6 : FuncData
  F6 : FunD K "are_pairs" "are_pairs" (defArgs s_are_pairs) (defBody s_are_pairs) (defScope s_are_pairs) [] [] f6 fd6
  g6 : mg "are_pairs" = some (.ref f6)
  f7 : Addr
  fd7 : FuncData
  F7 : FunD K "are_columns" "are_columns" (defArgs s_are_columns) (defBody s_are_columns) (defScope s_are_columns) [] [] f7 fd7
  g7 : mg "are_columns" = some (.ref f7)
  f8 : Addr
  fd8 : FuncData
  F8 : FunD K "are_sources" "are_sources" (defArgs s_are_sources) (defBody s_are_sources) (defScope s_are_sources) [] [] f8 fd8
  g8 : mg "are_sources" = some (.ref f8)
  f9 : Addr
  fd9 : FuncData
  F9 : FunD K "are_cells" "are_cells" (defArgs s_are_cells) (defBody s_are_cells) (defScope s_are_cells) [] [] f9 fd9
  g9 : mg "are_cells" = some (.ref f9)
  f10 : Addr
  fd10 : FuncData
  F10 : FunD K "is_letter" "is_letter" (defArgs s_is_letter) (defBody s_is_letter) (defScope s_is_letter) [] [] f10 fd10
  g10 : mg "is_letter" = some (.ref f10)
  f11 : Addr
  fd11 : FuncData
  F11 : FunD K "letter_weight" "letter_weight" (defArgs s_letter_weight) (defBody s_letter_weight) (defScope s_letter_weight) [] [] f11 fd11
  g11 : mg "letter_weight" = some (.ref f11)
  f12 : Addr
  fd12 : FuncData
  F12 : FunD K "__init__" "Book.__init__" (defArgs s_Book___init__) (defBody s_Book___init__) (defScope s_Book___init__) [] [] f12 fd12
  f13 : Addr
  fd13 : FuncData
  F13 : FunD K "take" "Book.take" (defArgs s_Book_take) (defBody s_Book_take) (defScope s_Book_take) [] [] f13 fd13
  f14 : Addr
  fd14 : FuncData
  F14 : FunD K "rows_of" "Book.rows_of" (defArgs s_Book_rows_of) (defBody s_Book_rows_of) (defScope s_Book_rows_of) [] [] f14 fd14
  f15 : Addr
  fd15 : FuncData
  F15 : FunD K "turns" "Book.turns" (defArgs s_Book_turns) (defBody s_Book_turns) (defScope s_Book_turns) [] [] f15 fd15
  f16 : Addr
  fd16 : FuncData
  F16 : FunD K "_law_bag" "_law_bag" (defArgs s__law_bag) (defBody s__law_bag) (defScope s__law_bag) [] [] f16 fd16
  g16 : mg "_law_bag" = some (.ref f16)
  f17 : Addr
  fd17 : FuncData
  F17 : FunD K "_law_take" "_law_take" (defArgs s__law_take) (defBody s__law_take) (defScope s__law_take) [] [] f17 fd17
  g17 : mg "_law_take" = some (.ref f17)
  f18 : Addr
  fd18 : FuncData
  F18 : FunD K "_law_sources" "_law_sources" (defArgs s__law_sources) (defBody s__law_sources) (defScope s__law_sources) [] [] f18 fd18
  g18 : mg "_law_sources" = some (.ref f18)
  f19 : Addr
  fd19 : FuncData
  F19 : FunD K "_law_key" "_law_key" (defArgs s__law_key) (defBody s__law_key) (defScope s__law_key) [] [] f19 fd19
  g19 : mg "_law_key" = some (.ref f19)
  f20 : Addr
  fd20 : FuncData
  F20 : FunD K "_law_moment" "_law_moment" (defArgs s__law_moment) (defBody s__law_moment) (defScope s__law_moment) [] [] f20 fd20
  g20 : mg "_law_moment" = some (.ref f20)
  f21 : Addr
  fd21 : FuncData
  F21 : FunD K "_law_cell" "_law_cell" (defArgs s__law_cell) (defBody s__law_cell) (defScope s__law_cell) [] [] f21 fd21
  g21 : mg "_law_cell" = some (.ref f21)
  f22 : Addr
  fd22 : FuncData
  F22 : FunD K "_law_letter" "_law_letter" (defArgs s__law_letter) (defBody s__law_letter) (defScope s__law_letter) [] [] f22 fd22
  g22 : mg "_law_letter" = some (.ref f22)
  f23 : Addr
  fd23 : FuncData
  F23 : FunD K "_law_letters" "_law_letters" (defArgs s__law_letters) (defBody s__law_letters) (defScope s__law_letters) [] [] f23 fd23
  g23 : mg "_law_letters" = some (.ref f23)
  f24 : Addr
  fd24 : FuncData
  F24 : FunD K "_law_less" "_law_less" (defArgs s__law_less) (defBody s__law_less) (defScope s__law_less) [] [] f24 fd24
  g24 : mg "_law_less" = some (.ref f24)
  f25 : Addr
  fd25 : FuncData
  F25 : FunD K "_law_turns" "_law_turns" (defArgs s__law_turns) (defBody s__law_turns) (defScope s__law_turns) [] [] f25 fd25
  g25 : mg "_law_turns" = some (.ref f25)
  f26 : Addr
  fd26 : FuncData
  F26 : FunD K "law" "law" (defArgs s_law) (defBody s_law) (defScope s_law) [] [] f26 fd26
  g26 : mg "law" = some (.ref f26)
  C_Book : Addr
  gC_Book : mg "Book" = some (.ref C_Book)
  cls_Book : Cls K C_Book
  na_Book_sources : NoAttr K C_Book "sources"
  na_Book_turned : NoAttr K C_Book "turned"
  na_Book_ticks : NoAttr K C_Book "ticks"
  na_Book_cut : NoAttr K C_Book "cut"
  mk_Book : Mk K C_Book f12
  me_Book_take : Meth K C_Book "take" f13
  me_Book_rows_of : Meth K C_Book "rows_of" f14
  me_Book_turns : Meth K C_Book "turns" f15
  z_abs : mg "abs" = none
  z_all : mg "all" = none
  z_bool : mg "bool" = none
  z_enumerate : mg "enumerate" = none
  z_int : mg "int" = none
  z_isinstance : mg "isinstance" = none
  z_len : mg "len" = none
  z_list : mg "list" = none
  z_max : mg "max" = none
  z_min : mg "min" = none
  z_range : mg "range" = none
  z_repr : mg "repr" = none
  z_str : mg "str" = none
  z_tuple : mg "tuple" = none
  z_zip : mg "zip" = none
  k_FAR : ∀ fa : Nat → Option Addr, ∀ P base k, KC ⟨P, wo, ⟨K, mg, fa⟩, base, k⟩ "FAR" v_FAR
  k_KINDS : ∀ fa : Nat → Option Addr, ∀ P base k, KC ⟨P, wo, ⟨K, mg, fa⟩, base, k⟩ "KINDS" v_KINDS
  k_LETTERS : ∀ fa : Nat → Option Addr, ∀ P base k, KC ⟨P, wo, ⟨K, mg, fa⟩, base, k⟩ "LETTERS" v_LETTERS
  k_MOST_COLUMNS : ∀ fa : Nat → Option Addr, ∀ P base k, KC ⟨P, wo, ⟨K, mg, fa⟩, base, k⟩ "MOST_COLUMNS" v_MOST_COLUMNS
  k_MOST_LETTERS : ∀ fa : Nat → Option Addr, ∀ P base k, KC ⟨P, wo, ⟨K, mg, fa⟩, base, k⟩ "MOST_LETTERS" v_MOST_LETTERS
  k_MOST_ROW : ∀ fa : Nat → Option Addr, ∀ P base k, KC ⟨P, wo, ⟨K, mg, fa⟩, base, k⟩ "MOST_ROW" v_MOST_ROW
  k_MOST_SOURCES : ∀ fa : Nat → Option Addr, ∀ P base k, KC ⟨P, wo, ⟨K, mg, fa⟩, base, k⟩ "MOST_SOURCES" v_MOST_SOURCES
  k_MOST_VERSION : ∀ fa : Nat → Option Addr, ∀ P base k, KC ⟨P, wo, ⟨K, mg, fa⟩, base, k⟩ "MOST_VERSION" v_MOST_VERSION
  k_NUMBER : ∀ fa : Nat → Option Addr, ∀ P base k, KC ⟨P, wo, ⟨K, mg, fa⟩, base, k⟩ "NUMBER" v_NUMBER
  k_SAY : ∀ fa : Nat → Option Addr, ∀ P base k, KC ⟨P, wo, ⟨K, mg, fa⟩, base, k⟩ "SAY" v_SAY
  k_UNSAY : ∀ fa : Nat → Option Addr, ∀ P base k, KC ⟨P, wo, ⟨K, mg, fa⟩, base, k⟩ "UNSAY" v_UNSAY
section
variable {K : PySem.W.Frag} {mg : Str → Option Value} {wo : World} {P : Program} {base : Heap} {k : Nat}
def faOf (I : Img K mg wo) : Nat → Option Addr
  | 1 => some I.f1
  | 2 => some I.f2
  | 3 => some I.f3
  | 4 => some I.f4
  | 5 => some I.f5
  | 6 => some I.f6
  | 7 => some I.f7
  | 8 => some I.f8
  | 9 => some I.f9
  | 10 => some I.f10
  | 11 => some I.f11
  | 12 => some I.f12
  | 13 => some I.f13
  | 14 => some I.f14
  | 15 => some I.f15
  | 16 => some I.f16
  | 17 => some I.f17
  | 18 => some I.f18
  | 19 => some I.f19
  | 20 => some I.f20
  | 21 => some I.f21
  | 22 => some I.f22
  | 23 => some I.f23
  | 24 => some I.f24
  | 25 => some I.f25
  | 26 => some I.f26
  | 27 => some I.C_Book
  | _ => none
abbrev Img.M (I : Img K mg wo) : Im := ⟨K, mg, faOf I⟩
structure AllFn (I : Img K mg wo) (P : Program) (base : Heap) (k : Nat) : Prop where
  h1 : FnG P wo I.M base (2 * k) I.f1 I.fd1 ["thing"] (tab k 1)
  h2 : FnG P wo I.M base (2 * k) I.f2 I.fd2 ["thing", "least", "most"] (tab k 2)
  h3 : FnG P wo I.M base (2 * k) I.f3 I.fd3 ["thing"] (tab k 3)
  h4 : FnG P wo I.M base (2 * k) I.f4 I.fd4 ["thing"] (tab k 4)
  h5 : FnG P wo I.M base (2 * k) I.f5 I.fd5 ["thing", "kind"] (tab k 5)
  h6 : FnG P wo I.M base (2 * k) I.f6 I.fd6 ["thing", "most"] (tab k 6)
  h7 : FnG P wo I.M base (2 * k) I.f7 I.fd7 ["thing"] (tab k 7)
  h8 : FnG P wo I.M base (2 * k) I.f8 I.fd8 ["thing"] (tab k 8)
  h9 : FnG P wo I.M base (2 * k) I.f9 I.fd9 ["columns", "thing"] (tab k 9)
  h10 : FnG P wo I.M base (2 * k) I.f10 I.fd10 ["sources", "thing"] (tab k 10)
  h11 : FnG P wo I.M base (2 * k) I.f11 I.fd11 ["letter"] (tab k 11)
  h12 : FnG P wo I.M base (2 * k) I.f12 I.fd12 ["self", "sources"] (tab k 12)
  h13 : FnG P wo I.M base (2 * k) I.f13 I.fd13 ["self", "letter"] (tab k 13)
  h14 : FnG P wo I.M base (2 * k) I.f14 I.fd14 ["self", "source"] (tab k 14)
  h15 : FnG P wo I.M base (2 * k) I.f15 I.fd15 ["self", "source", "row"] (tab k 15)
  h16 : FnG P wo I.M base (2 * k) I.f16 I.fd16 ["_law_script", "_law_at"] (tab k 16)
  h17 : FnG P wo I.M base (2 * k) I.f17 I.fd17 ["_law_bag_here", "_law_many"] (tab k 17)
  h18 : FnG P wo I.M base (2 * k) I.f18 I.fd18 ["_law_bag_here"] (tab k 18)
  h19 : FnG P wo I.M base (2 * k) I.f19 I.fd19 ["_law_bag_here"] (tab k 19)
  h20 : FnG P wo I.M base (2 * k) I.f20 I.fd20 ["_law_bag_here"] (tab k 20)
  h21 : FnG P wo I.M base (2 * k) I.f21 I.fd21 ["_law_bag_here", "_law_kind"] (tab k 21)
  h22 : FnG P wo I.M base (2 * k) I.f22 I.fd22 ["_law_bag_here", "_law_sources_here"] (tab k 22)
  h23 : FnG P wo I.M base (2 * k) I.f23 I.fd23 ["_law_bag_here", "_law_sources_here", "_law_most"] (tab k 23)
  h24 : FnG P wo I.M base (2 * k) I.f24 I.fd24 ["_law_one", "_law_two"] (tab k 24)
  h25 : FnG P wo I.M base (2 * k) I.f25 I.fd25 ["_law_letters_here", "_law_place"] (tab k 25)
  h26 : FnG P wo I.M base (2 * k) I.f26 I.fd26 ["_law_script"] (tab k 26)
theorem ev_of (I : Img K mg wo) (A : AllFn I P base k) : Ev ⟨P, wo, I.M, base, 2 * k + 1⟩ (tab k) where
  z_abs := I.z_abs
  z_all := I.z_all
  z_bool := I.z_bool
  z_enumerate := I.z_enumerate
  z_int := I.z_int
  z_isinstance := I.z_isinstance
  z_len := I.z_len
  z_list := I.z_list
  z_max := I.z_max
  z_min := I.z_min
  z_range := I.z_range
  z_repr := I.z_repr
  z_str := I.z_str
  z_tuple := I.z_tuple
  z_zip := I.z_zip
  cf__law_bag_2 := ⟨I.f16, I.fd16, _, (A.h16.mono (Nat.le_succ _)), (bnd_of I.F16 (fun _ _ _ _ _ _ us ws h1 h2 => match us, ws, h1, h2 with | [_, _], [], _, _ => rfl)), I.g16, I.F16.kp⟩
  cf__law_cell_2 := ⟨I.f21, I.fd21, _, (A.h21.mono (Nat.le_succ _)), (bnd_of I.F21 (fun _ _ _ _ _ _ us ws h1 h2 => match us, ws, h1, h2 with | [_, _], [], _, _ => rfl)), I.g21, I.F21.kp⟩
  cf__law_key_1 := ⟨I.f19, I.fd19, _, (A.h19.mono (Nat.le_succ _)), (bnd_of I.F19 (fun _ _ _ _ _ _ us ws h1 h2 => match us, ws, h1, h2 with | [_], [], _, _ => rfl)), I.g19, I.F19.kp⟩
  cf__law_less_2 := ⟨I.f24, I.fd24, _, (A.h24.mono (Nat.le_succ _)), (bnd_of I.F24 (fun _ _ _ _ _ _ us ws h1 h2 => match us, ws, h1, h2 with | [_, _], [], _, _ => rfl)), I.g24, I.F24.kp⟩
  cf__law_letter_2 := ⟨I.f22, I.fd22, _, (A.h22.mono (Nat.le_succ _)), (bnd_of I.F22 (fun _ _ _ _ _ _ us ws h1 h2 => match us, ws, h1, h2 with | [_, _], [], _, _ => rfl)), I.g22, I.F22.kp⟩
  cf__law_letters_3 := ⟨I.f23, I.fd23, _, (A.h23.mono (Nat.le_succ _)), (bnd_of I.F23 (fun _ _ _ _ _ _ us ws h1 h2 => match us, ws, h1, h2 with | [_, _, _], [], _, _ => rfl)), I.g23, I.F23.kp⟩
  cf__law_moment_1 := ⟨I.f20, I.fd20, _, (A.h20.mono (Nat.le_succ _)), (bnd_of I.F20 (fun _ _ _ _ _ _ us ws h1 h2 => match us, ws, h1, h2 with | [_], [], _, _ => rfl)), I.g20, I.F20.kp⟩
  cf__law_sources_1 := ⟨I.f18, I.fd18, _, (A.h18.mono (Nat.le_succ _)), (bnd_of I.F18 (fun _ _ _ _ _ _ us ws h1 h2 => match us, ws, h1, h2 with | [_], [], _, _ => rfl)), I.g18, I.F18.kp⟩
  cf__law_take_2 := ⟨I.f17, I.fd17, _, (A.h17.mono (Nat.le_succ _)), (bnd_of I.F17 (fun _ _ _ _ _ _ us ws h1 h2 => match us, ws, h1, h2 with | [_, _], [], _, _ => rfl)), I.g17, I.F17.kp⟩
  cf__law_turns_2 := ⟨I.f25, I.fd25, _, (A.h25.mono (Nat.le_succ _)), (bnd_of I.F25 (fun _ _ _ _ _ _ us ws h1 h2 => match us, ws, h1, h2 with | [_, _], [], _, _ => rfl)), I.g25, I.F25.kp⟩
  cf_are_cells_2 := ⟨I.f9, I.fd9, _, (A.h9.mono (Nat.le_succ _)), (bnd_of I.F9 (fun _ _ _ _ _ _ us ws h1 h2 => match us, ws, h1, h2 with | [_, _], [], _, _ => rfl)), I.g9, I.F9.kp⟩
  cf_are_columns_1 := ⟨I.f7, I.fd7, _, (A.h7.mono (Nat.le_succ _)), (bnd_of I.F7 (fun _ _ _ _ _ _ us ws h1 h2 => match us, ws, h1, h2 with | [_], [], _, _ => rfl)), I.g7, I.F7.kp⟩
  cf_are_pairs_2 := ⟨I.f6, I.fd6, _, (A.h6.mono (Nat.le_succ _)), (bnd_of I.F6 (fun _ _ _ _ _ _ us ws h1 h2 => match us, ws, h1, h2 with | [_, _], [], _, _ => rfl)), I.g6, I.F6.kp⟩
  cf_are_sources_1 := ⟨I.f8, I.fd8, _, (A.h8.mono (Nat.le_succ _)), (bnd_of I.F8 (fun _ _ _ _ _ _ us ws h1 h2 => match us, ws, h1, h2 with | [_], [], _, _ => rfl)), I.g8, I.F8.kp⟩
  cf_is_cell_2 := ⟨I.f5, I.fd5, _, (A.h5.mono (Nat.le_succ _)), (bnd_of I.F5 (fun _ _ _ _ _ _ us ws h1 h2 => match us, ws, h1, h2 with | [_, _], [], _, _ => rfl)), I.g5, I.F5.kp⟩
  cf_is_letter_2 := ⟨I.f10, I.fd10, _, (A.h10.mono (Nat.le_succ _)), (bnd_of I.F10 (fun _ _ _ _ _ _ us ws h1 h2 => match us, ws, h1, h2 with | [_, _], [], _, _ => rfl)), I.g10, I.F10.kp⟩
  cf_is_moment_1 := ⟨I.f4, I.fd4, _, (A.h4.mono (Nat.le_succ _)), (bnd_of I.F4 (fun _ _ _ _ _ _ us ws h1 h2 => match us, ws, h1, h2 with | [_], [], _, _ => rfl)), I.g4, I.F4.kp⟩
  cf_is_name_1 := ⟨I.f3, I.fd3, _, (A.h3.mono (Nat.le_succ _)), (bnd_of I.F3 (fun _ _ _ _ _ _ us ws h1 h2 => match us, ws, h1, h2 with | [_], [], _, _ => rfl)), I.g3, I.F3.kp⟩
  cf_is_whole_1 := ⟨I.f1, I.fd1, _, (A.h1.mono (Nat.le_succ _)), (bnd_of I.F1 (fun _ _ _ _ _ _ us ws h1 h2 => match us, ws, h1, h2 with | [_], [], _, _ => rfl)), I.g1, I.F1.kp⟩
  cf_is_within_3 := ⟨I.f2, I.fd2, _, (A.h2.mono (Nat.le_succ _)), (bnd_of I.F2 (fun _ _ _ _ _ _ us ws h1 h2 => match us, ws, h1, h2 with | [_, _, _], [], _, _ => rfl)), I.g2, I.F2.kp⟩
  cf_letter_weight_1 := ⟨I.f11, I.fd11, _, (A.h11.mono (Nat.le_succ _)), (bnd_of I.F11 (fun _ _ _ _ _ _ us ws h1 h2 => match us, ws, h1, h2 with | [_], [], _, _ => rfl)), I.g11, I.F11.kp⟩
  fd_Book_sources := ⟨I.C_Book, rfl, I.cls_Book, I.na_Book_sources⟩
  fd_Book_turned := ⟨I.C_Book, rfl, I.cls_Book, I.na_Book_turned⟩
  fd_Book_ticks := ⟨I.C_Book, rfl, I.cls_Book, I.na_Book_ticks⟩
  fd_Book_cut := ⟨I.C_Book, rfl, I.cls_Book, I.na_Book_cut⟩
  mk_Book___init___1 := ⟨I.f12, I.fd12, _, I.C_Book, 2 * k, A.h12, Nat.le_refl _, I.mk_Book, rfl, (bnd_of I.F12 (fun _ _ _ _ _ _ us ws h1 h2 => match us, ws, h1, h2 with | [_, _], [], _, _ => rfl)), I.gC_Book⟩
  me_Book_rows_of_1 := ⟨I.f14, I.fd14, _, I.C_Book, (A.h14.mono (Nat.le_succ _)), I.cls_Book, I.me_Book_rows_of, rfl, (bnd_of I.F14 (fun _ _ _ _ _ _ us ws h1 h2 => match us, ws, h1, h2 with | [_, _], [], _, _ => rfl))⟩
  me_Book_take_1 := ⟨I.f13, I.fd13, _, I.C_Book, (A.h13.mono (Nat.le_succ _)), I.cls_Book, I.me_Book_take, rfl, (bnd_of I.F13 (fun _ _ _ _ _ _ us ws h1 h2 => match us, ws, h1, h2 with | [_, _], [], _, _ => rfl))⟩
  me_Book_turns_0_row_source := ⟨I.f15, I.fd15, _, I.C_Book, (A.h15.mono (Nat.le_succ _)), I.cls_Book, I.me_Book_turns, rfl, (bnd_of I.F15 (fun _ _ _ _ _ _ us ws h1 h2 => match us, ws, h1, h2 with | [_], [_, _], _, _ => rfl))⟩
  me_Book_turns_2 := ⟨I.f15, I.fd15, _, I.C_Book, (A.h15.mono (Nat.le_succ _)), I.cls_Book, I.me_Book_turns, rfl, (bnd_of I.F15 (fun _ _ _ _ _ _ us ws h1 h2 => match us, ws, h1, h2 with | [_, _, _], [], _, _ => rfl))⟩
  c_FAR := I.k_FAR _ _ _ _
  c_KINDS := I.k_KINDS _ _ _ _
  c_LETTERS := I.k_LETTERS _ _ _ _
  c_MOST_COLUMNS := I.k_MOST_COLUMNS _ _ _ _
  c_MOST_LETTERS := I.k_MOST_LETTERS _ _ _ _
  c_MOST_ROW := I.k_MOST_ROW _ _ _ _
  c_MOST_SOURCES := I.k_MOST_SOURCES _ _ _ _
  c_MOST_VERSION := I.k_MOST_VERSION _ _ _ _
  c_NUMBER := I.k_NUMBER _ _ _ _
  c_SAY := I.k_SAY _ _ _ _
  c_UNSAY := I.k_UNSAY _ _ _ _
theorem all_ok (I : Img K mg wo) : ∀ k, AllFn I P base k
  | 0 => ⟨fnG_0, fnG_0, fnG_0, fnG_0, fnG_0, fnG_0, fnG_0, fnG_0, fnG_0, fnG_0, fnG_0, fnG_0, fnG_0, fnG_0, fnG_0, fnG_0, fnG_0, fnG_0, fnG_0, fnG_0, fnG_0, fnG_0, fnG_0, fnG_0, fnG_0, fnG_0⟩
  | k + 1 => by
    have E := ev_of I (all_ok I k)
    exact ⟨fnG_D I.F1 sc_is_whole fun X o => d_is_whole E o, fnG_D I.F2 sc_is_within fun X o => d_is_within E o, fnG_D I.F3 sc_is_name fun X o => d_is_name E o, fnG_D I.F4 sc_is_moment fun X o => d_is_moment E o, fnG_D I.F5 sc_is_cell fun X o => d_is_cell E o, fnG_D I.F6 sc_are_pairs fun X o => d_are_pairs E o, fnG_D I.F7 sc_are_columns fun X o => d_are_columns E o, fnG_D I.F8 sc_are_sources fun X o => d_are_sources E o, fnG_D I.F9 sc_are_cells fun X o => d_are_cells E o, fnG_D I.F10 sc_is_letter fun X o => d_is_letter E o, fnG_D I.F11 sc_letter_weight fun X o => d_letter_weight E o, fnG_D I.F12 sc_Book___init__ fun X o => d_Book___init__ E o, fnG_D I.F13 sc_Book_take fun X o => d_Book_take E o, fnG_D I.F14 sc_Book_rows_of fun X o => d_Book_rows_of E o, fnG_D I.F15 sc_Book_turns fun X o => d_Book_turns E o, fnG_D I.F16 sc__law_bag fun X o => d__law_bag E o, fnG_D I.F17 sc__law_take fun X o => d__law_take E o, fnG_D I.F18 sc__law_sources fun X o => d__law_sources E o, fnG_D I.F19 sc__law_key fun X o => d__law_key E o, fnG_D I.F20 sc__law_moment fun X o => d__law_moment E o, fnG_D I.F21 sc__law_cell fun X o => d__law_cell E o, fnG_D I.F22 sc__law_letter fun X o => d__law_letter E o, fnG_D I.F23 sc__law_letters fun X o => d__law_letters E o, fnG_D I.F24 sc__law_less fun X o => d__law_less E o, fnG_D I.F25 sc__law_turns fun X o => d__law_turns E o, fnG_D I.F26 sc_law fun X o => d_law E o⟩
end
theorem all_mk {l : PySem.W.OpenLaw} {w : World} {K : PySem.W.Frag} {h : Heap} {mg : Str → Option Value} {fa : Addr} (X : K.In h) (G : h.Ns mainGlobals mg) (hfa : mg "law" = some (.ref fa))
    {C_Book : Addr}
    {f1 : Addr} {od1 an1 : Option Addr} {sl1 : Array (Option Value)} {oc1 kV1 dc1 pm1 cd1 ct1 : Value}
    {f2 : Addr} {od2 an2 : Option Addr} {sl2 : Array (Option Value)} {oc2 kV2 dc2 pm2 cd2 ct2 : Value}
    {f3 : Addr} {od3 an3 : Option Addr} {sl3 : Array (Option Value)} {oc3 kV3 dc3 pm3 cd3 ct3 : Value}
    {f4 : Addr} {od4 an4 : Option Addr} {sl4 : Array (Option Value)} {oc4 kV4 dc4 pm4 cd4 ct4 : Value}
    {f5 : Addr} {od5 an5 : Option Addr} {sl5 : Array (Option Value)} {oc5 kV5 dc5 pm5 cd5 ct5 : Value}
    {f6 : Addr} {od6 an6 : Option Addr} {sl6 : Array (Option Value)} {oc6 kV6 dc6 pm6 cd6 ct6 : Value}
    {f7 : Addr} {od7 an7 : Option Addr} {sl7 : Array (Option Value)} {oc7 kV7 dc7 pm7 cd7 ct7 : Value}
    {f8 : Addr} {od8 an8 : Option Addr} {sl8 : Array (Option Value)} {oc8 kV8 dc8 pm8 cd8 ct8 : Value}
    {f9 : Addr} {od9 an9 : Option Addr} {sl9 : Array (Option Value)} {oc9 kV9 dc9 pm9 cd9 ct9 : Value}
    {f10 : Addr} {od10 an10 : Option Addr} {sl10 : Array (Option Value)} {oc10 kV10 dc10 pm10 cd10 ct10 : Value}
    {f11 : Addr} {od11 an11 : Option Addr} {sl11 : Array (Option Value)} {oc11 kV11 dc11 pm11 cd11 ct11 : Value}
    {f12 : Addr} {od12 an12 : Option Addr} {sl12 : Array (Option Value)} {oc12 kV12 dc12 pm12 cd12 ct12 : Value}
    {f13 : Addr} {od13 an13 : Option Addr} {sl13 : Array (Option Value)} {oc13 kV13 dc13 pm13 cd13 ct13 : Value}
    {f14 : Addr} {od14 an14 : Option Addr} {sl14 : Array (Option Value)} {oc14 kV14 dc14 pm14 cd14 ct14 : Value}
    {f15 : Addr} {od15 an15 : Option Addr} {sl15 : Array (Option Value)} {oc15 kV15 dc15 pm15 cd15 ct15 : Value}
    {f16 : Addr} {od16 an16 : Option Addr} {sl16 : Array (Option Value)} {oc16 kV16 dc16 pm16 cd16 ct16 : Value}
    {f17 : Addr} {od17 an17 : Option Addr} {sl17 : Array (Option Value)} {oc17 kV17 dc17 pm17 cd17 ct17 : Value}
    {f18 : Addr} {od18 an18 : Option Addr} {sl18 : Array (Option Value)} {oc18 kV18 dc18 pm18 cd18 ct18 : Value}
    {f19 : Addr} {od19 an19 : Option Addr} {sl19 : Array (Option Value)} {oc19 kV19 dc19 pm19 cd19 ct19 : Value}
    {f20 : Addr} {od20 an20 : Option Addr} {sl20 : Array (Option Value)} {oc20 kV20 dc20 pm20 cd20 ct20 : Value}
    {f21 : Addr} {od21 an21 : Option Addr} {sl21 : Array (Option Value)} {oc21 kV21 dc21 pm21 cd21 ct21 : Value}
    {f22 : Addr} {od22 an22 : Option Addr} {sl22 : Array (Option Value)} {oc22 kV22 dc22 pm22 cd22 ct22 : Value}
    {f23 : Addr} {od23 an23 : Option Addr} {sl23 : Array (Option Value)} {oc23 kV23 dc23 pm23 cd23 ct23 : Value}
    {f24 : Addr} {od24 an24 : Option Addr} {sl24 : Array (Option Value)} {oc24 kV24 dc24 pm24 cd24 ct24 : Value}
    {f25 : Addr} {od25 an25 : Option Addr} {sl25 : Array (Option Value)} {oc25 kV25 dc25 pm25 cd25 ct25 : Value}
    {f26 : Addr} {od26 an26 : Option Addr} {sl26 : Array (Option Value)} {oc26 kV26 dc26 pm26 cd26 ct26 : Value}
    {t_FAR : Tok}
    {A_KINDS : Addr} {od_KINDS : Option Addr} {its_KINDS : Array Value} {n_KINDS : Nat} {sl_KINDS : Array (Option Value)}
    {t_LETTERS : Tok}
    {t_MOST_COLUMNS : Tok}
    {t_MOST_LETTERS : Tok}
    {t_MOST_ROW : Tok}
    {t_MOST_SOURCES : Tok}
    {t_MOST_VERSION : Tok}
    {t_NUMBER : Tok}
    {t_SAY : Tok}
    {t_UNSAY : Tok}
    (ca_Book : PySem.W.nsIn K mainGlobals "Book" = some (some (.ref C_Book))) (cpg_Book : PySem.W.plainGet K C_Book Str.empty = true) (chd_Book : PySem.W.hasDictIn K C_Book = true) (cpo_Book : PySem.W.plainOver K C_Book = true) (csa_Book : PySem.W.findIn K (.ref C_Book) "__setattr__" = some (some (.builtin "object.__setattr__"))) (ckp_Book : PySem.W.keepIn K (.ref C_Book) = true)
    (cmk_Book : PySem.W.makesIn K C_Book = true)
    (cn_Book_sources : PySem.W.findIn K (.ref C_Book) "sources" = some none)
    (cn_Book_turned : PySem.W.findIn K (.ref C_Book) "turned" = some none)
    (cn_Book_ticks : PySem.W.findIn K (.ref C_Book) "ticks" = some none)
    (cn_Book_cut : PySem.W.findIn K (.ref C_Book) "cut" = some none)
    (a1 : PySem.W.nsIn K mainGlobals "is_whole" = some (some (.ref f1))) (l1 : K.lookup f1 = some ⟨oc1, od1, .func (PySem.W.fnOf "is_whole" "is_whole" (defArgs s_is_whole) (defBody s_is_whole) (defScope s_is_whole) .none kV1 dc1 pm1 an1 cd1 ct1), sl1⟩) (c1 : PySem.W.codeIn K cd1 "is_whole" = true) (k1 : PySem.W.keepIn K (.ref f1) = true)
    (a2 : PySem.W.nsIn K mainGlobals "is_within" = some (some (.ref f2))) (l2 : K.lookup f2 = some ⟨oc2, od2, .func (PySem.W.fnOf "is_within" "is_within" (defArgs s_is_within) (defBody s_is_within) (defScope s_is_within) .none kV2 dc2 pm2 an2 cd2 ct2), sl2⟩) (c2 : PySem.W.codeIn K cd2 "is_within" = true) (k2 : PySem.W.keepIn K (.ref f2) = true)
    (a3 : PySem.W.nsIn K mainGlobals "is_name" = some (some (.ref f3))) (l3 : K.lookup f3 = some ⟨oc3, od3, .func (PySem.W.fnOf "is_name" "is_name" (defArgs s_is_name) (defBody s_is_name) (defScope s_is_name) .none kV3 dc3 pm3 an3 cd3 ct3), sl3⟩) (c3 : PySem.W.codeIn K cd3 "is_name" = true) (k3 : PySem.W.keepIn K (.ref f3) = true)
    (a4 : PySem.W.nsIn K mainGlobals "is_moment" = some (some (.ref f4))) (l4 : K.lookup f4 = some ⟨oc4, od4, .func (PySem.W.fnOf "is_moment" "is_moment" (defArgs s_is_moment) (defBody s_is_moment) (defScope s_is_moment) .none kV4 dc4 pm4 an4 cd4 ct4), sl4⟩) (c4 : PySem.W.codeIn K cd4 "is_moment" = true) (k4 : PySem.W.keepIn K (.ref f4) = true)
    (a5 : PySem.W.nsIn K mainGlobals "is_cell" = some (some (.ref f5))) (l5 : K.lookup f5 = some ⟨oc5, od5, .func (PySem.W.fnOf "is_cell" "is_cell" (defArgs s_is_cell) (defBody s_is_cell) (defScope s_is_cell) .none kV5 dc5 pm5 an5 cd5 ct5), sl5⟩) (c5 : PySem.W.codeIn K cd5 "is_cell" = true) (k5 : PySem.W.keepIn K (.ref f5) = true)
    (a6 : PySem.W.nsIn K mainGlobals "are_pairs" = some (some (.ref f6))) (l6 : K.lookup f6 = some ⟨oc6, od6, .func (PySem.W.fnOf "are_pairs" "are_pairs" (defArgs s_are_pairs) (defBody s_are_pairs) (defScope s_are_pairs) .none kV6 dc6 pm6 an6 cd6 ct6), sl6⟩) (c6 : PySem.W.codeIn K cd6 "are_pairs" = true) (k6 : PySem.W.keepIn K (.ref f6) = true)
    (a7 : PySem.W.nsIn K mainGlobals "are_columns" = some (some (.ref f7))) (l7 : K.lookup f7 = some ⟨oc7, od7, .func (PySem.W.fnOf "are_columns" "are_columns" (defArgs s_are_columns) (defBody s_are_columns) (defScope s_are_columns) .none kV7 dc7 pm7 an7 cd7 ct7), sl7⟩) (c7 : PySem.W.codeIn K cd7 "are_columns" = true) (k7 : PySem.W.keepIn K (.ref f7) = true)
    (a8 : PySem.W.nsIn K mainGlobals "are_sources" = some (some (.ref f8))) (l8 : K.lookup f8 = some ⟨oc8, od8, .func (PySem.W.fnOf "are_sources" "are_sources" (defArgs s_are_sources) (defBody s_are_sources) (defScope s_are_sources) .none kV8 dc8 pm8 an8 cd8 ct8), sl8⟩) (c8 : PySem.W.codeIn K cd8 "are_sources" = true) (k8 : PySem.W.keepIn K (.ref f8) = true)
    (a9 : PySem.W.nsIn K mainGlobals "are_cells" = some (some (.ref f9))) (l9 : K.lookup f9 = some ⟨oc9, od9, .func (PySem.W.fnOf "are_cells" "are_cells" (defArgs s_are_cells) (defBody s_are_cells) (defScope s_are_cells) .none kV9 dc9 pm9 an9 cd9 ct9), sl9⟩) (c9 : PySem.W.codeIn K cd9 "are_cells" = true) (k9 : PySem.W.keepIn K (.ref f9) = true)
    (a10 : PySem.W.nsIn K mainGlobals "is_letter" = some (some (.ref f10))) (l10 : K.lookup f10 = some ⟨oc10, od10, .func (PySem.W.fnOf "is_letter" "is_letter" (defArgs s_is_letter) (defBody s_is_letter) (defScope s_is_letter) .none kV10 dc10 pm10 an10 cd10 ct10), sl10⟩) (c10 : PySem.W.codeIn K cd10 "is_letter" = true) (k10 : PySem.W.keepIn K (.ref f10) = true)
    (a11 : PySem.W.nsIn K mainGlobals "letter_weight" = some (some (.ref f11))) (l11 : K.lookup f11 = some ⟨oc11, od11, .func (PySem.W.fnOf "letter_weight" "letter_weight" (defArgs s_letter_weight) (defBody s_letter_weight) (defScope s_letter_weight) .none kV11 dc11 pm11 an11 cd11 ct11), sl11⟩) (c11 : PySem.W.codeIn K cd11 "letter_weight" = true) (k11 : PySem.W.keepIn K (.ref f11) = true)
    (a12 : PySem.W.findIn K (.ref C_Book) "__init__" = some (some (.ref f12))) (n12 : PySem.W.isFn K (.ref f12) = true) (l12 : K.lookup f12 = some ⟨oc12, od12, .func (PySem.W.fnOf "__init__" "Book.__init__" (defArgs s_Book___init__) (defBody s_Book___init__) (defScope s_Book___init__) .none kV12 dc12 pm12 an12 cd12 ct12), sl12⟩) (c12 : PySem.W.codeIn K cd12 "Book.__init__" = true) (k12 : PySem.W.keepIn K (.ref f12) = true)
    (a13 : PySem.W.findIn K (.ref C_Book) "take" = some (some (.ref f13))) (n13 : PySem.W.isFn K (.ref f13) = true) (l13 : K.lookup f13 = some ⟨oc13, od13, .func (PySem.W.fnOf "take" "Book.take" (defArgs s_Book_take) (defBody s_Book_take) (defScope s_Book_take) .none kV13 dc13 pm13 an13 cd13 ct13), sl13⟩) (c13 : PySem.W.codeIn K cd13 "Book.take" = true) (k13 : PySem.W.keepIn K (.ref f13) = true)
    (a14 : PySem.W.findIn K (.ref C_Book) "rows_of" = some (some (.ref f14))) (n14 : PySem.W.isFn K (.ref f14) = true) (l14 : K.lookup f14 = some ⟨oc14, od14, .func (PySem.W.fnOf "rows_of" "Book.rows_of" (defArgs s_Book_rows_of) (defBody s_Book_rows_of) (defScope s_Book_rows_of) .none kV14 dc14 pm14 an14 cd14 ct14), sl14⟩) (c14 : PySem.W.codeIn K cd14 "Book.rows_of" = true) (k14 : PySem.W.keepIn K (.ref f14) = true)
    (a15 : PySem.W.findIn K (.ref C_Book) "turns" = some (some (.ref f15))) (n15 : PySem.W.isFn K (.ref f15) = true) (l15 : K.lookup f15 = some ⟨oc15, od15, .func (PySem.W.fnOf "turns" "Book.turns" (defArgs s_Book_turns) (defBody s_Book_turns) (defScope s_Book_turns) .none kV15 dc15 pm15 an15 cd15 ct15), sl15⟩) (c15 : PySem.W.codeIn K cd15 "Book.turns" = true) (k15 : PySem.W.keepIn K (.ref f15) = true)
    (a16 : PySem.W.nsIn K mainGlobals "_law_bag" = some (some (.ref f16))) (l16 : K.lookup f16 = some ⟨oc16, od16, .func (PySem.W.fnOf "_law_bag" "_law_bag" (defArgs s__law_bag) (defBody s__law_bag) (defScope s__law_bag) .none kV16 dc16 pm16 an16 cd16 ct16), sl16⟩) (c16 : PySem.W.codeIn K cd16 "_law_bag" = true) (k16 : PySem.W.keepIn K (.ref f16) = true)
    (a17 : PySem.W.nsIn K mainGlobals "_law_take" = some (some (.ref f17))) (l17 : K.lookup f17 = some ⟨oc17, od17, .func (PySem.W.fnOf "_law_take" "_law_take" (defArgs s__law_take) (defBody s__law_take) (defScope s__law_take) .none kV17 dc17 pm17 an17 cd17 ct17), sl17⟩) (c17 : PySem.W.codeIn K cd17 "_law_take" = true) (k17 : PySem.W.keepIn K (.ref f17) = true)
    (a18 : PySem.W.nsIn K mainGlobals "_law_sources" = some (some (.ref f18))) (l18 : K.lookup f18 = some ⟨oc18, od18, .func (PySem.W.fnOf "_law_sources" "_law_sources" (defArgs s__law_sources) (defBody s__law_sources) (defScope s__law_sources) .none kV18 dc18 pm18 an18 cd18 ct18), sl18⟩) (c18 : PySem.W.codeIn K cd18 "_law_sources" = true) (k18 : PySem.W.keepIn K (.ref f18) = true)
    (a19 : PySem.W.nsIn K mainGlobals "_law_key" = some (some (.ref f19))) (l19 : K.lookup f19 = some ⟨oc19, od19, .func (PySem.W.fnOf "_law_key" "_law_key" (defArgs s__law_key) (defBody s__law_key) (defScope s__law_key) .none kV19 dc19 pm19 an19 cd19 ct19), sl19⟩) (c19 : PySem.W.codeIn K cd19 "_law_key" = true) (k19 : PySem.W.keepIn K (.ref f19) = true)
    (a20 : PySem.W.nsIn K mainGlobals "_law_moment" = some (some (.ref f20))) (l20 : K.lookup f20 = some ⟨oc20, od20, .func (PySem.W.fnOf "_law_moment" "_law_moment" (defArgs s__law_moment) (defBody s__law_moment) (defScope s__law_moment) .none kV20 dc20 pm20 an20 cd20 ct20), sl20⟩) (c20 : PySem.W.codeIn K cd20 "_law_moment" = true) (k20 : PySem.W.keepIn K (.ref f20) = true)
    (a21 : PySem.W.nsIn K mainGlobals "_law_cell" = some (some (.ref f21))) (l21 : K.lookup f21 = some ⟨oc21, od21, .func (PySem.W.fnOf "_law_cell" "_law_cell" (defArgs s__law_cell) (defBody s__law_cell) (defScope s__law_cell) .none kV21 dc21 pm21 an21 cd21 ct21), sl21⟩) (c21 : PySem.W.codeIn K cd21 "_law_cell" = true) (k21 : PySem.W.keepIn K (.ref f21) = true)
    (a22 : PySem.W.nsIn K mainGlobals "_law_letter" = some (some (.ref f22))) (l22 : K.lookup f22 = some ⟨oc22, od22, .func (PySem.W.fnOf "_law_letter" "_law_letter" (defArgs s__law_letter) (defBody s__law_letter) (defScope s__law_letter) .none kV22 dc22 pm22 an22 cd22 ct22), sl22⟩) (c22 : PySem.W.codeIn K cd22 "_law_letter" = true) (k22 : PySem.W.keepIn K (.ref f22) = true)
    (a23 : PySem.W.nsIn K mainGlobals "_law_letters" = some (some (.ref f23))) (l23 : K.lookup f23 = some ⟨oc23, od23, .func (PySem.W.fnOf "_law_letters" "_law_letters" (defArgs s__law_letters) (defBody s__law_letters) (defScope s__law_letters) .none kV23 dc23 pm23 an23 cd23 ct23), sl23⟩) (c23 : PySem.W.codeIn K cd23 "_law_letters" = true) (k23 : PySem.W.keepIn K (.ref f23) = true)
    (a24 : PySem.W.nsIn K mainGlobals "_law_less" = some (some (.ref f24))) (l24 : K.lookup f24 = some ⟨oc24, od24, .func (PySem.W.fnOf "_law_less" "_law_less" (defArgs s__law_less) (defBody s__law_less) (defScope s__law_less) .none kV24 dc24 pm24 an24 cd24 ct24), sl24⟩) (c24 : PySem.W.codeIn K cd24 "_law_less" = true) (k24 : PySem.W.keepIn K (.ref f24) = true)
    (a25 : PySem.W.nsIn K mainGlobals "_law_turns" = some (some (.ref f25))) (l25 : K.lookup f25 = some ⟨oc25, od25, .func (PySem.W.fnOf "_law_turns" "_law_turns" (defArgs s__law_turns) (defBody s__law_turns) (defScope s__law_turns) .none kV25 dc25 pm25 an25 cd25 ct25), sl25⟩) (c25 : PySem.W.codeIn K cd25 "_law_turns" = true) (k25 : PySem.W.keepIn K (.ref f25) = true)
    (a26 : PySem.W.nsIn K mainGlobals "law" = some (some (.ref f26))) (l26 : K.lookup f26 = some ⟨oc26, od26, .func (PySem.W.fnOf "law" "law" (defArgs s_law) (defBody s_law) (defScope s_law) .none kV26 dc26 pm26 an26 cd26 ct26), sl26⟩) (c26 : PySem.W.codeIn K cd26 "law" = true) (k26 : PySem.W.keepIn K (.ref f26) = true)
    (z_abs : PySem.W.nsIn K mainGlobals "abs" = some none)
    (z_all : PySem.W.nsIn K mainGlobals "all" = some none)
    (z_bool : PySem.W.nsIn K mainGlobals "bool" = some none)
    (z_enumerate : PySem.W.nsIn K mainGlobals "enumerate" = some none)
    (z_int : PySem.W.nsIn K mainGlobals "int" = some none)
    (z_isinstance : PySem.W.nsIn K mainGlobals "isinstance" = some none)
    (z_len : PySem.W.nsIn K mainGlobals "len" = some none)
    (z_list : PySem.W.nsIn K mainGlobals "list" = some none)
    (z_max : PySem.W.nsIn K mainGlobals "max" = some none)
    (z_min : PySem.W.nsIn K mainGlobals "min" = some none)
    (z_range : PySem.W.nsIn K mainGlobals "range" = some none)
    (z_repr : PySem.W.nsIn K mainGlobals "repr" = some none)
    (z_str : PySem.W.nsIn K mainGlobals "str" = some none)
    (z_tuple : PySem.W.nsIn K mainGlobals "tuple" = some none)
    (z_zip : PySem.W.nsIn K mainGlobals "zip" = some none)
    (m_FAR : PySem.W.nsIn K mainGlobals "FAR" = some (some (.int 1000000 t_FAR)))
    (m_KINDS : PySem.W.nsIn K mainGlobals "KINDS" = some (some (.ref A_KINDS))) (tl_KINDS : K.lookup A_KINDS = some ⟨.type "tuple", od_KINDS, .seq its_KINDS n_KINDS, sl_KINDS⟩) (kz_KINDS : its_KINDS.size ≤ sizeLine) (kd_KINDS : KDs K [.str "number", .str "word"] its_KINDS.toList)
    (m_LETTERS : PySem.W.nsIn K mainGlobals "LETTERS" = some (some (.str "abcdefghijklmnopqrstuvwxyz" t_LETTERS)))
    (m_MOST_COLUMNS : PySem.W.nsIn K mainGlobals "MOST_COLUMNS" = some (some (.int 4 t_MOST_COLUMNS)))
    (m_MOST_LETTERS : PySem.W.nsIn K mainGlobals "MOST_LETTERS" = some (some (.int 8 t_MOST_LETTERS)))
    (m_MOST_ROW : PySem.W.nsIn K mainGlobals "MOST_ROW" = some (some (.int 999 t_MOST_ROW)))
    (m_MOST_SOURCES : PySem.W.nsIn K mainGlobals "MOST_SOURCES" = some (some (.int 4 t_MOST_SOURCES)))
    (m_MOST_VERSION : PySem.W.nsIn K mainGlobals "MOST_VERSION" = some (some (.int 99 t_MOST_VERSION)))
    (m_NUMBER : PySem.W.nsIn K mainGlobals "NUMBER" = some (some (.str "number" t_NUMBER)))
    (m_SAY : PySem.W.nsIn K mainGlobals "SAY" = some (some (.str "say" t_SAY)))
    (m_UNSAY : PySem.W.nsIn K mainGlobals "UNSAY" = some (some (.str "unsay" t_UNSAY))) :
    ∃ (fs : Nat → Option Addr) (fd : FuncData), (∀ (s : Shared) (u : Value), BindsTo s fd ⟨[u], []⟩ [("_law_script", u)]) ∧ ∀ base : Heap, K.In base → base.Ns mainGlobals mg → FnG l.prog w ⟨K, mg, fs⟩ base 28 fa fd ["_law_script"] (tab 14 26) := by
  have e := hfa.symm.trans (PySem.W.mg_of X G a26)
  cases e
  let I : Img K mg w := ⟨_, _, funD_mk (st := s_is_whole) l1 c1 k1, PySem.W.mg_of X G a1, _, _, funD_mk (st := s_is_within) l2 c2 k2, PySem.W.mg_of X G a2, _, _, funD_mk (st := s_is_name) l3 c3 k3, PySem.W.mg_of X G a3, _, _, funD_mk (st := s_is_moment) l4 c4 k4, PySem.W.mg_of X G a4, _, _, funD_mk (st := s_is_cell) l5 c5 k5, PySem.W.mg_of X G a5, _, _, funD_mk (st := s_are_pairs) l6 c6 k6, PySem.W.mg_of X G a6, _, _, funD_mk (st := s_are_columns) l7 c7 k7, PySem.W.mg_of X G a7, _, _, funD_mk (st := s_are_sources) l8 c8 k8, PySem.W.mg_of X G a8, _, _, funD_mk (st := s_are_cells) l9 c9 k9, PySem.W.mg_of X G a9, _, _, funD_mk (st := s_is_letter) l10 c10 k10, PySem.W.mg_of X G a10, _, _, funD_mk (st := s_letter_weight) l11 c11 k11, PySem.W.mg_of X G a11, _, _, funD_mk (st := s_Book___init__) l12 c12 k12, _, _, funD_mk (st := s_Book_take) l13 c13 k13, _, _, funD_mk (st := s_Book_rows_of) l14 c14 k14, _, _, funD_mk (st := s_Book_turns) l15 c15 k15, _, _, funD_mk (st := s__law_bag) l16 c16 k16, PySem.W.mg_of X G a16, _, _, funD_mk (st := s__law_take) l17 c17 k17, PySem.W.mg_of X G a17, _, _, funD_mk (st := s__law_sources) l18 c18 k18, PySem.W.mg_of X G a18, _, _, funD_mk (st := s__law_key) l19 c19 k19, PySem.W.mg_of X G a19, _, _, funD_mk (st := s__law_moment) l20 c20 k20, PySem.W.mg_of X G a20, _, _, funD_mk (st := s__law_cell) l21 c21 k21, PySem.W.mg_of X G a21, _, _, funD_mk (st := s__law_letter) l22 c22 k22, PySem.W.mg_of X G a22, _, _, funD_mk (st := s__law_letters) l23 c23 k23, PySem.W.mg_of X G a23, _, _, funD_mk (st := s__law_less) l24 c24 k24, PySem.W.mg_of X G a24, _, _, funD_mk (st := s__law_turns) l25 c25 k25, PySem.W.mg_of X G a25, _, _, funD_mk (st := s_law) l26 c26 k26, PySem.W.mg_of X G a26, C_Book, PySem.W.mg_of X G ca_Book, ⟨cpg_Book, chd_Book, cpo_Book, csa_Book⟩, cn_Book_sources, cn_Book_turned, cn_Book_ticks, cn_Book_cut, ⟨cmk_Book, a12, n12, ckp_Book⟩, ⟨a13, n13, k13⟩, ⟨a14, n14, k14⟩, ⟨a15, n15, k15⟩, PySem.W.mg_none_of X G z_abs, PySem.W.mg_none_of X G z_all, PySem.W.mg_none_of X G z_bool, PySem.W.mg_none_of X G z_enumerate, PySem.W.mg_none_of X G z_int, PySem.W.mg_none_of X G z_isinstance, PySem.W.mg_none_of X G z_len, PySem.W.mg_none_of X G z_list, PySem.W.mg_none_of X G z_max, PySem.W.mg_none_of X G z_min, PySem.W.mg_none_of X G z_range, PySem.W.mg_none_of X G z_repr, PySem.W.mg_none_of X G z_str, PySem.W.mg_none_of X G z_tuple, PySem.W.mg_none_of X G z_zip, fun _ _ _ _ => kc_int (PySem.W.mg_of X G m_FAR), fun _ _ _ _ => kc_tup (PySem.W.mg_of X G m_KINDS) tl_KINDS kz_KINDS kd_KINDS, fun _ _ _ _ => kc_str (PySem.W.mg_of X G m_LETTERS), fun _ _ _ _ => kc_int (PySem.W.mg_of X G m_MOST_COLUMNS), fun _ _ _ _ => kc_int (PySem.W.mg_of X G m_MOST_LETTERS), fun _ _ _ _ => kc_int (PySem.W.mg_of X G m_MOST_ROW), fun _ _ _ _ => kc_int (PySem.W.mg_of X G m_MOST_SOURCES), fun _ _ _ _ => kc_int (PySem.W.mg_of X G m_MOST_VERSION), fun _ _ _ _ => kc_str (PySem.W.mg_of X G m_NUMBER), fun _ _ _ _ => kc_str (PySem.W.mg_of X G m_SAY), fun _ _ _ _ => kc_str (PySem.W.mg_of X G m_UNSAY)⟩
  refine ⟨faOf I, I.fd26, fun s v => .of_eq rfl, fun base _ _ => (all_ok I 14).h26⟩
end LW
/-! GL part 33: bools reckoned with as whole numbers, str of a whole number or a bool. -/
namespace GL
open PySem L2 PyProof.Rows
def boI (b : Bool) : Int := if b = true then 1 else 0
noncomputable def binopW : Operator → D → D → Gh → R D
  | .Add, .int i, .int j, g => .ok (.int (i + j)) g
  | .Add, .bl b, .int j, g => .ok (.int (boI b + j)) g
  | .Mult, .int i, .int j, g => guardR (mulOk i j) (.int (i * j)) g
  | .Mult, .bl b, .int j, g => .ok (.int (boI b * j)) g
  | _, _, _, _ => .bad
noncomputable def eBinW (op : Operator) (a b : ME) : ME := fun env g => (a env g).bind fun x g1 => (b env g1).bind fun y g2 => binopW op x y g2
def negopW : D → Gh → R D
  | .int i, g => .ok (.int (-i)) g
  | .bl b, g => .ok (.int (-(boI b))) g
  | _, _ => .bad
def eNegW (a : ME) : ME := fun env g => (a env g).bind negopW
def shI (i : Int) : Str := Str.ofString (toString i)
def shB (b : Bool) : Str := if b then "True" else "False"
def oStr : List D → Gh → R D
  | [.int i], g => guardR (decide (i.natAbs.log2 < 1920)) (.str (shI i)) g
  | [.bl b], g => .ok (.str (shB b)) g
  | _, _ => .bad
section
variable {M : Im} {W : XW} {X : Cx} {k : Nat}
theorem op_add_bi : OpR X (binaryOp .Add) (fun x y H Q => ∃ b j, x = .bl b ∧ y = .int j ∧ Q (.int (boI b + j)) H) := by
  intro pins s σ H x y v u Q I rx ry h
  obtain ⟨b, j, rfl, rfl, q⟩ := h
  obtain ⟨t, rfl⟩ := ry
  cases rx
  exact PySem.IntBool.add_bool_int ⟨.int (boI b + j), H, I.tok _, ⟨_, rfl⟩, q⟩
theorem op_mul_bi : OpR X (binaryOp .Mult) (fun x y H Q => ∃ b j, x = .bl b ∧ y = .int j ∧ Q (.int (boI b * j)) H) := by
  intro pins s σ H x y v u Q I rx ry h
  obtain ⟨b, j, rfl, rfl, q⟩ := h
  obtain ⟨t, rfl⟩ := ry
  cases rx
  exact PySem.IntBool.mul_bool_int ⟨.int (boI b * j), H, I.tok _, ⟨_, rfl⟩, q⟩
theorem gives_int_neg_bool (b : Bool) : Gives (Builtin.«int.__neg__» ⟨[.bool b], []⟩) (.int (-(if b = true then (1 : Int) else 0))) := .of_eq rfl
theorem un_negW : UnR X (unaryOp .USub) (fun x H Q => (∃ i, x = .int i ∧ Q (.int (-i)) H) ∨ ∃ b, x = .bl b ∧ Q (.int (-(boI b))) H) := by
  intro pins s σ H x v Q I rx h
  rcases h with ⟨i, rfl, q⟩ | ⟨b, rfl, q⟩
  · obtain ⟨t, rfl⟩ := rx
    exact PySem.P.neg_int ⟨.int (-i), H, I.tok _, ⟨_, rfl⟩, q⟩
  · cases rx
    exact unaryOp_gives (op := .USub) (T := "bool") rfl rfl F.slot_bool_neg F.entry_int_neg (F.args_int_neg_1 _) (gives_int_neg_bool b) ⟨.int (-(boI b)), H, I.tok _, ⟨_, rfl⟩, q⟩
theorem call_strW : CallR X (.type "str") (fun xs H Q => (∃ i, xs = [.int i] ∧ i.natAbs.log2 < 1920 ∧ Q (.str (shI i)) H) ∨ ∃ b, xs = [.bl b] ∧ Q (.str (shB b)) H) := by
  intro pins s σ H xs us Q I r h
  rcases h with ⟨i, rfl, hz, q⟩ | ⟨b, rfl, q⟩
  · obtain ⟨u, rfl, t, rfl⟩ := vals1 r
    exact PySem.P.str_of_int hz ⟨.str _, H, I.tok _, ⟨_, rfl⟩, q⟩
  · obtain ⟨u, rfl, r1⟩ := vals1 r
    cases r1
    exact PySem.P.str_of_bool ⟨.str (shB b), H, I.tok _, ⟨_, rfl⟩, q⟩
theorem str_ok : CallOk M W X (.type "str") oStr := by
  refine ⟨_, call_strW, fun w fr env G σ H Q ds vs r hd h => ?_⟩
  unfold oStr at h
  split at h
  · obtain ⟨v, rfl, q⟩ := DVs.one_inv hd
    cases q
    obtain ⟨hb, h⟩ := guard_post (α := D) h
    exact .inl ⟨_, rfl, of_decide_eq_true hb, Post.here h r _ (.str _)⟩
  · obtain ⟨v, rfl, q⟩ := DVs.one_inv hd
    cases q
    exact .inr ⟨_, rfl, Post.here h r _ (.str _)⟩
  · exact h.elim
variable {a b c : Expr} {ma mb mc : ME} {pos : Pos}
theorem binopW_ok (g : GX M k X) (op : Operator) : OpOk M W X (binaryOp op) (binopW op) := by
  have never : ∀ f : Value → Value → Sem Value, OpR X f (fun _ _ _ _ => False) := fun f _ _ _ _ _ _ _ _ _ _ _ _ h => h.elim
  cases op with
  | Add =>
    refine ⟨_, op_add.or op_add_bi, fun w fr env G σ H Q x y vx vy r hx hy h => ?_⟩
    cases x <;> cases y <;> try exact h.elim
    · cases hx; cases hy
      exact .inr ⟨_, _, rfl, rfl, Post.here h r _ (.int _)⟩
    · cases hx; cases hy
      exact .inl ⟨_, _, rfl, rfl, Post.here h r _ (.int _)⟩
  | Mult =>
    refine ⟨_, (op_mul.or op_mulW).or op_mul_bi, fun w fr env G σ H Q x y vx vy r hx hy h => ?_⟩
    cases x <;> cases y <;> try exact h.elim
    · cases hx; cases hy
      exact .inr ⟨_, _, rfl, rfl, Post.here h r _ (.int _)⟩
    · cases hx; cases hy
      obtain ⟨hb, h⟩ := guard_post (α := D) h
      have hb := tru_iff.mp hb
      rcases hb with (hb | hb) | hb
      · exact .inl (.inl ⟨_, _, rfl, rfl, .inl hb, Post.here h r _ (.int _)⟩)
      · exact .inl (.inl ⟨_, _, rfl, rfl, .inr hb, Post.here h r _ (.int _)⟩)
      · exact .inl (.inr ⟨_, _, rfl, rfl, hb, Post.here h r _ (.int _)⟩)
  | _ => exact ⟨_, never _, fun w fr env G σ H Q x y vx vy r hx hy h => by unfold binopW at h; exact h⟩
theorem se_binW (g : GX M k X) {op : Operator} (ha : SE M W X a ma) (hb : SE M W X b mb) : SE M W X (.BinOp a op b pos) (eBinW op ma mb) := by
  obtain ⟨r, o1, o2⟩ := binopW_ok (W := W) g op
  obtain ⟨ta, a1, a2⟩ := ha
  obtain ⟨tb, b1, b2⟩ := hb
  refine ⟨_, pe_op o1 a1 b1, fun w fr env G σ H Q rs h => ?_⟩
  refine a2 w fr env G σ H _ rs ((Post.bind h).imp fun x w1 G1 H1 l1 r1 h1 vx dx => ?_)
  refine b2 w1 fr env G1 σ H1 _ r1 ((Post.bind h1).imp fun y w2 G2 H2 l2 r2 h2 vy dy => ?_)
  exact o2 w2 fr env G2 σ H2 Q x y vx vy r2 (dx.up l2) dy h2
theorem se_negW (g : GX M k X) (ha : SE M W X a ma) : SE M W X (.UnaryOp .USub a pos) (eNegW ma) := by
  obtain ⟨ta, a1, a2⟩ := ha
  refine ⟨_, pe_un un_negW a1, fun w fr env G σ H Q rs h => ?_⟩
  refine a2 w fr env G σ H _ rs ((Post.bind h).imp fun x w1 G1 H1 l1 r1 h1 vx dx => ?_)
  cases dx <;> try exact h1.elim
  · exact .inr ⟨_, rfl, Post.here h1 r1 _ (.int _)⟩
  · exact .inl ⟨_, rfl, Post.here h1 r1 _ (.int _)⟩
end
section
variable {c : Cn} {W : XW} {N : List Str} {sc : Scope} {fnf : Str → Bool} {X : Cx} {a b : Expr} {ma mb : ME} {pos : Pos}
theorem w_binW (o : OkX c N sc fnf X) {op : Operator} (ha : SE c.M W X a ma) (hb : SE c.M W X b mb) : SE c.M W X (.BinOp a op b pos) (eBinW op ma mb) := se_binW o.g ha hb
theorem w_negW (o : OkX c N sc fnf X) (ha : SE c.M W X a ma) : SE c.M W X (.UnaryOp .USub a pos) (eNegW ma) := se_negW o.g ha
end
@[simp] theorem eBinW_ap {op : Operator} {a b : ME} {env : Env'} {g : Gh} : eBinW op a b env g = (a env g).bind fun x g1 => (b env g1).bind fun y g2 => binopW op x y g2 := rfl
@[simp] theorem eNegW_ap {a : ME} {env : Env'} {g : Gh} : eNegW a env g = (a env g).bind negopW := rfl
end GL
/-! GL part 60: texts joined, str of a text, a text so many times, an own list made longer by +=. -/
namespace GL
open PySem L2 PyProof.Rows
def asStrs : List D → Option (List Str)
  | [] => some []
  | .str x :: r => (asStrs r).map (x :: ·)
  | _ :: _ => none
theorem asStrs_eq : ∀ {ds : List D} {ss : List Str}, asStrs ds = some ss → ds = ss.map D.str
  | [], _, h => by cases h; rfl
  | d :: ds, ss, h => by
    cases d <;> simp only [asStrs] at h <;> try cases h
    rename_i x
    cases e : asStrs ds with
    | none => rw [e] at h; cases h
    | some r => rw [e] at h; cases h; rw [asStrs_eq e]; rfl
theorem asStrs_map (ss : List Str) : asStrs (ss.map D.str) = some ss := by
  induction ss with
  | nil => rfl
  | cons x r ih => simp only [List.map_cons, asStrs, ih, Option.map_some]
theorem DVs.strs_inv {M : Im} {w : Wd} : ∀ {ss : List Str} {vs : List V}, DVs M w (ss.map D.str) vs → vs = ss.map V.str
  | [], _, h => by cases h; rfl
  | s :: ss, _, h => by
    cases h with
    | cons a b => cases a; rw [DVs.strs_inv b]; rfl
def joinG (z : Str) (ss : List Str) (g : Gh) : R D := guardR (decide ((ss.map (·.length)).sum + ss.length * z.length ≤ LIM)) (.str (Txt.join z ss)) g
def joinD (z : Str) : D → Gh → R D
  | .lst xs, g => match asStrs xs with
    | some ss => joinG z ss g
    | none => .bad
  | _, _ => .bad
def joinE (b : Gh → R D) : D → Gh → R D
  | .str z, g => (b g).bind fun y g2 => joinD z (deref g2 y) g2
  | _, _ => .bad
def eJoin (a b : ME) : ME := fun env g => (a env g).bind (joinE fun g1 => b env g1)
def oStrS : List D → Gh → R D
  | [.int i], g => guardR (decide (i.natAbs.log2 < 1920)) (.str (shI i)) g
  | [.bl b], g => .ok (.str (shB b)) g
  | [.str x], g => .ok (.str x) g
  | _, _ => .bad
def repD : D → D → Gh → R D
  | .str x, .int n, g => if n = 0 then .ok (.str Str.empty) g else if n = 1 then .ok (.str x) g else .bad
  | _, _, _ => .bad
def eRepS (a b : ME) : ME := fun env g => (a env g).bind fun x g1 => (b env g1).bind fun y g2 => repD x y g2
def extS (i : Nat) (env : Env') (xs : List D) : D → Gh → SR
  | .lst zs, g => if xs.length + zs.length ≤ LIM then .nx (env.set i (.own (xs ++ zs))) g else .bad
  | _, _ => .bad
def sOwnExt (i : Nat) (a : ME) : MS := fun env g => match env[i]? with
  | some (.own xs) => (a env g).bindS fun d g1 => extS i env xs (deref g1 d) g1
  | _ => .bad
section
variable {M : Im} {W : XW} {X : Cx} {k i : Nat} {a b : Expr} {ma mb : ME} {pos apos cpos p : Pos} {x : Str}
theorem se_join (g : GX M k X) (ha : SE M W X a ma) (hb : SE M W X b mb) (hs : starEach [b] X.env = [(false, eval b X.env)]) (hbase : attributeBase a "join" X.env (eval a X.env) = eval a X.env) (hline : (apos.endLine == cpos.line) = true) :
    SE M W X (.Call (.Attribute a "join" apos) [b] [] cpos) (eJoin ma mb) := by
  obtain ⟨t, a1, a2⟩ := ha
  obtain ⟨u, b1, b2⟩ := hb
  refine ⟨_, pe_join a1 b1 hs hbase hline, fun w fr env G σ H Q r h => ?_⟩
  refine a2 w fr env G σ H _ r ((Post.bind h).imp fun d w1 G1 H1 l1 r1 h1 v dv => ?_)
  cases d <;> try exact h1.elim
  rename_i z
  cases dv
  refine ⟨⟨z, rfl⟩, b2 w1 fr env G1 σ H1 _ r1 ((Post.bind h1).imp fun y w2 G2 H2 l2 r2 h2 vy dy => ?_)⟩
  have dh := DH.of r2 dy
  generalize deref G2 y = y' at *
  cases y' <;> try exact h2.elim
  rename_i xs
  simp only [joinD] at h2
  cases e : asStrs xs with
  | none => rw [e] at h2; exact h2.elim
  | some ss =>
    rw [e] at h2
    simp only [joinG] at h2
    obtain ⟨hg, h2⟩ := guard_post (α := D) h2
    obtain ⟨q, vs, rfl, hs1, hd1⟩ := dh.list
    have e1 := asStrs_eq e; subst e1
    have e2 := hd1.strs_inv; subst e2
    exact ⟨z, q, ss, rfl, rfl, .inl (.inl (.inl hs1)), Nat.le_trans (of_decide_eq_true hg) (by decide), Post.here h2 r2 _ (.str _)⟩
theorem call_strS : CallR X (.type "str") (fun xs H Q => (∃ i, xs = [.int i] ∧ i.natAbs.log2 < 1920 ∧ Q (.str (shI i)) H) ∨ (∃ b, xs = [.bl b] ∧ Q (.str (shB b)) H) ∨ ∃ z, xs = [.str z] ∧ Q (.str z) H) := by
  intro pins s σ H xs us Q I r h
  rcases h with h | h | h
  · exact call_strW pins s σ H xs us Q I r (.inl h)
  · exact call_strW pins s σ H xs us Q I r (.inr h)
  · exact SkE.call_str_str pins s σ H xs us Q I r h
theorem strS_ok : CallOk M W X (.type "str") oStrS := by
  refine ⟨_, call_strS, fun w fr env G σ H Q ds vs r hd h => ?_⟩
  unfold oStrS at h
  split at h
  · obtain ⟨v, rfl, q⟩ := DVs.one_inv hd
    cases q
    obtain ⟨hb, h⟩ := guard_post (α := D) h
    exact .inl ⟨_, rfl, of_decide_eq_true hb, Post.here h r _ (.str _)⟩
  · obtain ⟨v, rfl, q⟩ := DVs.one_inv hd
    cases q
    exact .inr (.inl ⟨_, rfl, Post.here h r _ (.str _)⟩)
  · obtain ⟨v, rfl, q⟩ := DVs.one_inv hd
    cases q
    exact .inr (.inr ⟨_, rfl, Post.here h r _ (.str _)⟩)
  · exact h.elim
theorem op_repS : OpR X (binaryOp .Mult) (fun x y H Q => (∃ z, x = .str z ∧ y = .int 0 ∧ Q (.str Str.empty) H) ∨ ∃ z, x = .str z ∧ y = .int 1 ∧ Q (.str z) H) := by
  intro pins s σ H x y v u Q I rx ry h
  rcases h with ⟨z, rfl, rfl, q⟩ | ⟨z, rfl, rfl, q⟩
  · obtain ⟨t, rfl⟩ := rx
    obtain ⟨t', rfl⟩ := ry
    exact PySem.P.mul_str_none (by decide) (by decide) ⟨.str Str.empty, H, I.tok _, ⟨_, rfl⟩, q⟩
  · obtain ⟨t, rfl⟩ := rx
    obtain ⟨t', rfl⟩ := ry
    refine PySem.P.mul_str (by decide) (fun _ h => absurd h (by simp)) (fun _ h => absurd h (by simp)) ?_
    rw [if_neg (by decide), if_pos (by simp)]
    exact ⟨.str z, H, I, ⟨_, rfl⟩, q⟩
theorem se_repS (g : GX M k X) (ha : SE M W X a ma) (hb : SE M W X b mb) : SE M W X (.BinOp a .Mult b pos) (eRepS ma mb) := by
  obtain ⟨ta, a1, a2⟩ := ha
  obtain ⟨tb, b1, b2⟩ := hb
  refine ⟨_, pe_op op_repS a1 b1, fun w fr env G σ H Q rs h => ?_⟩
  refine a2 w fr env G σ H _ rs ((Post.bind h).imp fun x w1 G1 H1 l1 r1 h1 vx dx => ?_)
  refine b2 w1 fr env G1 σ H1 _ r1 ((Post.bind h1).imp fun y w2 G2 H2 l2 r2 h2 vy dy => ?_)
  cases dx <;> cases dy <;> try exact h2.elim
  rename_i z n
  simp only [repD] at h2
  by_cases e0 : n = 0
  · subst e0; rw [if_pos rfl] at h2; exact .inl ⟨z, rfl, rfl, Post.here h2 r2 _ (.str _)⟩
  · rw [if_neg e0] at h2
    by_cases e1 : n = 1
    · subst e1; rw [if_pos rfl] at h2; exact .inr ⟨z, rfl, rfl, Post.here h2 r2 _ (.str _)⟩
    · rw [if_neg e1] at h2; exact h2.elim
theorem ss_ownExt (g : GX M k X) (hN : X.N[i]? = some x) (hl : Loc X.env.scope x) (hf : X.fn x = true ∨ X.env.scope.names.lookup x = some .local) (ha : SE M W X a ma) : SS M W X (.AugAssign (.Name x p) .Add a pos) (sOwnExt i ma) := by
  obtain ⟨t, a1, a2⟩ := ha
  refine ⟨_, ps_aug g.nd hN hl a1 iop_ext hf, fun w fr env G σ H D r h => ?_⟩
  unfold sOwnExt at h
  cases q : env[i]? with
  | none => rw [q] at h; exact h.elim
  | some s =>
    rw [q] at h
    cases s with
    | un => exact h.elim
    | val d => exact h.elim
    | own xs =>
      obtain ⟨l, vs, h1, h2, h3, _⟩ := r.getOwn q
      refine ⟨_, h1, ?_⟩
      refine a2 w fr env G σ H _ r ((PostS.bind h).imp fun d w1 G1 H1 l1 r1 h4 vd dd => ?_)
      have dh := DH.of r1 dd
      generalize deref G1 d = d' at *
      cases d' <;> try exact h4.elim
      rename_i zs
      simp only [extS] at h4
      by_cases hz : xs.length + zs.length ≤ LIM
      · rw [if_pos hz] at h4
        obtain ⟨q', us, rfl, hs1, hd1⟩ := dh.list
        obtain ⟨l', vs', e1, e2, e3, e4⟩ := r1.getOwn q
        rw [h1] at e1; cases e1
        refine ⟨l, q', vs', us, rfl, rfl, e2, hs1, by rw [← e3.length, ← hd1.length]; exact lim_le hz, ?_⟩
        show D.nx (σ.set i (some (V.ref l))) _
        rw [set_self h1]
        exact h4 w1 σ _ (Wd.Le.refl w1) (e4 _ _ (e3.append hd1))
      · rw [if_neg hz] at h4; exact h4.elim
end
section
variable {c : Cn} {W : XW} {N : List Str} {sc : Scope} {fnf : Str → Bool} {X : Cx} {a b : Expr} {ma mb : ME} {pos apos cpos p : Pos} {x : Str}
theorem w_join (o : OkX c N sc fnf X) (ha : SE c.M W X a ma) (hb : SE c.M W X b mb) (hs : starEach [b] X.env = [(false, eval b X.env)]) (hbase : attributeBase a "join" X.env (eval a X.env) = eval a X.env) (hline : (apos.endLine == cpos.line) = true) :
    SE c.M W X (.Call (.Attribute a "join" apos) [b] [] cpos) (eJoin ma mb) := se_join o.g ha hb hs hbase hline
theorem w_ownExt (o : OkX c N sc fnf X) (i : Nat) (h : chkT N sc fnf i x = true) (ha : SE c.M W X a ma) : SS c.M W X (.AugAssign (.Name x p) .Add a pos) (sOwnExt i ma) := ss_ownExt o.g (chkT_of o h).1 (chkT_of o h).2.1 (chkT_of o h).2.2 ha
theorem w_repS (o : OkX c N sc fnf X) (ha : SE c.M W X a ma) (hb : SE c.M W X b mb) : SE c.M W X (.BinOp a .Mult b pos) (eRepS ma mb) := se_repS o.g ha hb
end
@[simp] theorem eJoin_ap {a b : ME} {env : Env'} {g : Gh} : eJoin a b env g = (a env g).bind (joinE fun g1 => b env g1) := rfl
@[simp] theorem joinE_str {b : Gh → R D} {z : Str} {g : Gh} : joinE b (.str z) g = (b g).bind fun y g2 => joinD z (deref g2 y) g2 := rfl
@[simp] theorem eRepS_ap {a b : ME} {env : Env'} {g : Gh} : eRepS a b env g = (a env g).bind fun x g1 => (b env g1).bind fun y g2 => repD x y g2 := rfl
end GL
/-! GL part 15: tools for reckoning with meanings. -/
namespace GL
open PySem L2
section
variable {env : Env'} {g : Gh} {a b c : ME} {t u : MT} {l l' : ML} {s s' : MS} {i j : Nat} {d : D}
@[simp] theorem eLv_ap : eLv i env g = match env[i]? with | some (.val d) => .ok d g | _ => .bad := rfl
@[simp] theorem eC_ap : eC d env g = .ok d g := rfl
@[simp] theorem eBin_ap {op : Operator} : eBin op a b env g = (a env g).bind fun x g1 => (b env g1).bind fun y g2 => binop op x y g2 := rfl
@[simp] theorem eCmp_ap {op : CmpOp} : eCmp op a b env g = (a env g).bind fun x g1 => (b env g1).bind fun y g2 => cmpop op x y g2 := rfl
@[simp] theorem eChain_ap {op op' : CmpOp} : eChain op op' a b c env g = (a env g).bind fun x g1 => (b env g1).bind fun y g2 => (cmpop op x y g2).bind (asB fun k g3 => if k then (c env g3).bind fun z g4 => cmpop op' y z g4 else .ok (.bl false) g3) := rfl
@[simp] theorem eNeg_ap : eNeg a env g = (a env g).bind negop := rfl
@[simp] theorem tV_ap : tV a env g = (a env g).bind (asB fun b g1 => .ok b g1) := rfl
@[simp] theorem tAnd_ap : tAnd t u env g = (t env g).bind fun k g1 => if k then u env g1 else .ok false g1 := rfl
@[simp] theorem tOr_ap : tOr t u env g = (t env g).bind fun k g1 => if k then .ok true g1 else u env g1 := rfl
@[simp] theorem tNot_ap : tNot t env g = (t env g).bind fun k g1 => .ok (!k) g1 := rfl
@[simp] theorem tTrue_ap : tTrue env g = .ok true g := rfl
@[simp] theorem eAnd_ap : eAnd a b env g = (a env g).bind (asB fun k g1 => if k then b env g1 else .ok (.bl false) g1) := rfl
@[simp] theorem eOr_ap : eOr a b env g = (a env g).bind (asB fun k g1 => if k then .ok (.bl true) g1 else b env g1) := rfl
@[simp] theorem eNot_ap : eNot t env g = (t env g).bind fun k g1 => .ok (.bl (!k)) g1 := rfl
@[simp] theorem eIf_ap : eIf t a b env g = (t env g).bind fun k g1 => if k then a env g1 else b env g1 := rfl
@[simp] theorem lNil_ap : lNil env g = .ok [] g := rfl
@[simp] theorem lCons_ap : lCons a l env g = (a env g).bind fun x g1 => (l env g1).bind fun xs g2 => .ok (x :: xs) g2 := rfl
@[simp] theorem eTup_ap : eTup l env g = (l env g).bind fun xs g1 => guardR (decide (xs.length ≤ LIM)) (.tup xs) g1 := rfl
@[simp] theorem fLst_ap : fLst l env g = (l env g).bind fun xs g1 => if xs.length ≤ LIM then .ok xs g1 else .bad := rfl
@[simp] theorem eNew_ap : eNew l env g = (l env g).bind fun xs g1 => .ok (.lst xs) g1 := rfl
@[simp] theorem eAlloc_ap : eAlloc l env g = (l env g).bind fun xs g1 => .ok (.loc g1.length) (g1 ++ [.lst xs]) := rfl
@[simp] theorem eSub_ap : eSub a b env g = (a env g).bind fun x g1 => (b env g1).bind fun y g2 => subD (deref g2 x) y g2 := rfl
@[simp] theorem oNone_ap : oNone env g = .ok none g := rfl
@[simp] theorem oSome_ap : oSome a env g = (a env g).bind fun x g1 => match x with | .int i => .ok (some i) g1 | _ => .bad := rfl
@[simp] theorem eCut_ap {lo hi : MO} : eCut a lo hi env g = (a env g).bind fun x g1 => (lo env g1).bind fun l g2 => (hi env g2).bind fun h g3 => cutop (deref g3 x) l h g3 := rfl
@[simp] theorem lCut_ap {lo hi : MO} : lCut a lo hi env g = (a env g).bind fun x g1 => (lo env g1).bind fun l g2 => (hi env g2).bind fun h g3 => match deref g3 x with
  | .lst xs => if xs.length ≤ LIM then .ok (cutD xs l h) g3 else .bad
  | _ => .bad := rfl
@[simp] theorem lCat_ap : lCat a b env g = (a env g).bind fun x g1 => (b env g1).bind fun y g2 => match deref g2 x, deref g2 y with
  | .lst xs, .lst ys => if xs.length + ys.length ≤ LIM then .ok (xs ++ ys) g2 else .bad
  | _, _ => .bad := rfl
@[simp] theorem eBi_ap {o : List D → Gh → R D} : eBi o l env g = (l env g).bind o := rfl
@[simp] theorem lBi_ap {o : List D → Gh → R (List D)} : lBi o l env g = (l env g).bind o := rfl
@[simp] theorem eTab_ap {tb : Str → Option D} : eTab tb a env g = (a env g).bind fun x g1 => match x with
  | .str z => match tb z with
    | some d => .ok d g1
    | none => .bad
  | _ => .bad := rfl
@[simp] theorem eCall_ap {m : FM} {n nk : Nat} {pm : List Nat} {dd : List D} : eCall m n nk pm dd l l' env g = (l env g).bind fun ds g1 => (l' env g1).bind fun es g2 => if ds.length = n ∧ es.length = nk then noX (m (permL pm (ds ++ es ++ dd)) g2) else .bad := rfl
@[simp] theorem eCallV_ap {F : Nat → FM} {okF : Nat → Bool} {n : Nat} : eCallV F okF n i l env g = match env[i]? with
  | some (.val (.fn q)) => if okF q then (l env g).bind fun ds g1 => if ds.length = n then noX (F q ds g1) else .bad else .bad
  | _ => .bad := rfl
@[simp] theorem sSkip_ap : sSkip env g = .nx env g := rfl
@[simp] theorem sSeq_ap : sSeq s s' env g = (s env g).seq s' := rfl
@[simp] theorem sIf_ap : sIf t s s' env g = (t env g).bindS fun k g1 => if k then s env g1 else s' env g1 := rfl
@[simp] theorem sRet_ap : sRet a env g = (a env g).bindS fun d g1 => .rt d g1 := rfl
@[simp] theorem sRetN_ap : sRetN env g = .rt .non g := rfl
@[simp] theorem sBreak_ap : sBreak env g = .bk env g := rfl
@[simp] theorem sCont_ap : sCont env g = .ct env g := rfl
@[simp] theorem sDrop_ap : sDrop a env g = (a env g).bindS fun _ g1 => .nx env g1 := rfl
@[simp] theorem sSet_ap : sSet i a env g = (a env g).bindS fun d g1 => .nx (env.set i (.val d)) g1 := rfl
@[simp] theorem sSetOwn_ap : sSetOwn i l env g = (l env g).bindS fun xs g1 => if i < env.length then .nx (env.set i (.own xs)) g1 else .bad := rfl
@[simp] theorem sFreeze_ap : sFreeze i s env g = match env[i]? with | some (.own xs) => s (env.set i (.val (.lst xs))) g | _ => .bad := rfl
@[simp] theorem sAsg_ap {tg : MG} : sAsg a tg env g = (a env g).bindS fun d g1 => optS (tg d env) g1 := rfl
@[simp] theorem optS_some {e : Env'} : optS (some e) g = .nx e g := rfl
@[simp] theorem optS_none : optS none g = .bad := rfl
@[simp] theorem sPar_ap : sPar i j l env g = (l env g).bindS fun ds g1 => match ds with | [x, y] => .nx ((env.set i (.val x)).set j (.val y)) g1 | _ => .bad := rfl
@[simp] theorem sOwnApp_ap : sOwnApp i a env g = match env[i]? with
  | some (.own xs) => (a env g).bindS fun d g1 => if xs.length < LIM then .nx (env.set i (.own (xs ++ [d]))) g1 else .bad
  | _ => .bad := rfl
@[simp] theorem sSetIx_ap : sSetIx a b c env g = (a env g).bindS fun d g1 => (b env g1).bindS fun x g2 => (c env g2).bindS fun y g3 => match x, y with
  | .loc n, .int z => match g3[n]? with
    | some (.lst xs) => match ixN xs.length z with
      | some j => .nx env (g3.set n (.lst (xs.set j d)))
      | none => .bad
    | _ => .bad
  | _, _ => .bad := rfl
@[simp] theorem gNm_ap : gNm i d env = some (env.set i (.val d)) := rfl
@[simp] theorem gsNil_ap : gsNil [] env = some env := rfl
@[simp] theorem gsCons_ap {x : MG} {y : MGs} {ds : List D} : gsCons x y (d :: ds) env = (x d env).bind fun e => y ds e := rfl
@[simp] theorem gTp_ap {n : Nat} {y : MGs} {ds : List D} : gTp n y (.tup ds) env = if ds.length = n then y ds env else none := rfl
@[simp] theorem iV_ap : iV a env g = (a env g).bind itemsD := rfl
@[simp] theorem iRange1_ap : iRange1 a env g = (a env g).bind fun x g1 => match x with
  | .int j => if rngOk j then .ok (rangeD 0 j.toNat, none) g1 else .bad
  | _ => .bad := rfl
@[simp] theorem itemsD_lst {xs : List D} : itemsD (.lst xs) g = .ok (xs, none) g := rfl
@[simp] theorem itemsD_tup {xs : List D} : itemsD (.tup xs) g = .ok (xs, none) g := rfl
@[simp] theorem sFor_ap {it : MI} {tg : MG} : sFor it tg s env g = (it env g).bindS fun p g1 => forL p.2 tg s p.1 env g1 := rfl
@[simp] theorem lComp_ap {it : MI} {tg : MG} {vs : List Nat} : lComp it tg t a vs env g = (it env g).bind fun p g1 => match compL p.2 tg t a p.1 (blkE env vs) g1 with
  | .ok ys g2 => if ys.length ≤ LIM then .ok ys g2 else .bad
  | _ => .bad := rfl
end
/-! ### operations -/
section
variable {g : Gh} {i j : Int} {x y : Str} {xs ys : List D} {d e : D}
@[simp] theorem deref_int : deref g (.int i) = .int i := rfl
@[simp] theorem deref_str : deref g (.str x) = .str x := rfl
@[simp] theorem deref_non : deref g .non = .non := rfl
@[simp] theorem deref_bl {k : Bool} : deref g (.bl k) = .bl k := rfl
@[simp] theorem deref_tup : deref g (.tup xs) = .tup xs := rfl
@[simp] theorem deref_lst : deref g (.lst xs) = .lst xs := rfl
@[simp] theorem deref_arr {ns : List Int} : deref g (.arr ns) = .arr ns := rfl
@[simp] theorem deref_fn {n : Nat} : deref g (.fn n) = .fn n := rfl
theorem deref_loc {n : Nat} (h : g[n]? = some (.lst xs)) : deref g (.loc n) = .lst xs := by simp [deref, h]
@[simp] theorem guardR_true : guardR true d g = .ok d g := rfl
@[simp] theorem add_ap : binop .Add (.int i) (.int j) g = .ok (.int (i + j)) g := rfl
@[simp] theorem sub_ap : binop .Sub (.int i) (.int j) g = .ok (.int (i - j)) g := rfl
@[simp] theorem mul_ap : binop .Mult (.int i) (.int j) g = guardR (mulOk i j) (.int (i * j)) g := rfl
@[simp] theorem fdiv_ap : binop .FloorDiv (.int i) (.int j) g = guardR (divOk j) (.int (i.fdiv j)) g := rfl
@[simp] theorem fmod_ap : binop .Mod (.int i) (.int j) g = guardR (decide (j ≠ 0)) (.int (i.fmod j)) g := rfl
@[simp] theorem pow_ap : binop .Pow (.int i) (.int j) g = guardR (powOk i j) (.int (i ^ j.toNat)) g := rfl
@[simp] theorem cat_ap : binop .Add (.lst xs) (.lst ys) g = guardR (decide (xs.length + ys.length ≤ LIM)) (.lst (xs ++ ys)) g := rfl
@[simp] theorem catT_ap : binop .Add (.tup xs) (.tup ys) g = guardR (decide (xs.length + ys.length ≤ LIM)) (.tup (xs ++ ys)) g := rfl
@[simp] theorem catS_ap : binop .Add (.str x) (.str y) g = guardR (decide (x.length + y.length ≤ LIM)) (.str (x ++ y)) g := rfl
@[simp] theorem neg_ap : negop (.int i) g = .ok (.int (-i)) g := rfl
@[simp] theorem lt_ap : cmpop .Lt (.int i) (.int j) g = .ok (.bl (decide (i < j))) g := rfl
@[simp] theorem gt_ap : cmpop .Gt (.int i) (.int j) g = .ok (.bl (decide (j < i))) g := rfl
@[simp] theorem le_ap : cmpop .LtE (.int i) (.int j) g = .ok (.bl (decide (i ≤ j))) g := by
  show R.ok (D.bl (!decide (j < i))) g = _
  rw [dec_not]
@[simp] theorem ge_ap : cmpop .GtE (.int i) (.int j) g = .ok (.bl (decide (j ≤ i))) g := by
  show R.ok (D.bl (!decide (i < j))) g = _
  rw [dec_not]
@[simp] theorem eqI_ap : cmpop .Eq (.int i) (.int j) g = .ok (.bl (decide (i = j))) g := by
  show guardR (okE (.int i) (.int j)) (.bl (eqD (.int i) (.int j))) g = _
  simp [okE, okD, eqD, guardR, Bool.beq_eq_decide_eq]
@[simp] theorem neI_ap : cmpop .NotEq (.int i) (.int j) g = .ok (.bl (decide (i ≠ j))) g := by
  show guardR (okE (.int i) (.int j)) (.bl (!eqD (.int i) (.int j))) g = _
  simp [okE, okD, eqD, guardR, Bool.beq_eq_decide_eq]
theorem eq_ap : cmpop .Eq d e g = guardR (okE (deref g d) (deref g e)) (.bl (eqD (deref g d) (deref g e))) g := rfl
theorem ne_ap : cmpop .NotEq d e g = guardR (okE (deref g d) (deref g e)) (.bl (!eqD (deref g d) (deref g e))) g := rfl
@[simp] theorem isN_ap : cmpop .Is d .non g = .ok (.bl (isNon (deref g d))) g := rfl
@[simp] theorem notN_ap : cmpop .IsNot d .non g = .ok (.bl (!isNon (deref g d))) g := rfl
@[simp] theorem isNon_non : isNon .non = true := rfl
@[simp] theorem isNon_tup : isNon (.tup xs) = false := rfl
@[simp] theorem isNon_int : isNon (.int i) = false := rfl
@[simp] theorem asB_bl {α : Type} {f : Bool → Gh → R α} {k : Bool} : asB f (.bl k) g = f k g := rfl
@[simp] theorem subT_ap : subD (.tup xs) (.int i) g = match atI xs i with | some d => .ok d g | none => .bad := rfl
@[simp] theorem subL_ap : subD (.lst xs) (.int i) g = match atI xs i with | some d => .ok d g | none => .bad := rfl
@[simp] theorem subA_ap {ns : List Int} : subD (.arr ns) (.int i) g = match atI ns i with | some n => .ok (.int n) g | none => .bad := rfl
@[simp] theorem oAbs_ap : oAbs [.int i] g = .ok (.int (if i < 0 then -i else i)) g := rfl
@[simp] theorem oInt_bl {k : Bool} : oInt [.bl k] g = .ok (.int (if k then 1 else 0)) g := rfl
@[simp] theorem oInt_int : oInt [.int i] g = .ok (.int i) g := rfl
@[simp] theorem oLen_lst : oLen [.lst xs] g = .ok (.int xs.length) g := rfl
@[simp] theorem oLen_tup : oLen [.tup xs] g = .ok (.int xs.length) g := rfl
@[simp] theorem oLen_arr {ns : List Int} : oLen [.arr ns] g = .ok (.int ns.length) g := rfl
@[simp] theorem oMin_ap : oMin [.int i, .int j] g = .ok (.int (if j < i then j else i)) g := rfl
@[simp] theorem oMax_ap : oMax [.int i, .int j] g = .ok (.int (if j > i then j else i)) g := rfl
@[simp] theorem cutL_ap {lo hi : Option Int} : cutop (.lst xs) lo hi g = .ok (.lst (cutD xs lo hi)) g := rfl
@[simp] theorem cutT_ap {lo hi : Option Int} : cutop (.tup xs) lo hi g = .ok (.tup (cutD xs lo hi)) g := rfl
theorem atI0 {α : Type} {x : α} {l : List α} : atI (x :: l) 0 = some x := by simp [atI, ixN]
theorem ixN_nat {n j : Nat} (h : j < n) : ixN n (j : Int) = some j := by unfold ixN; rw [if_pos (by omega), if_pos (by omega)]; simp
end
/-! ### sizes -/
/-- an int of less than n bits -/
abbrev Bd (n : Nat) (x : Int) : Prop := x.natAbs < 2 ^ n
theorem Bd.mono {n m : Nat} {x : Int} (h : Bd n x) (l : n ≤ m) : Bd m x := Nat.lt_of_lt_of_le h (Nat.pow_le_pow_right (by decide) l)
theorem log2_of {n : Nat} {x : Nat} (h0 : 0 < n) (h : x < 2 ^ n) : x.log2 < n := by
  by_cases hx : x = 0
  · subst hx; simpa using h0
  · exact (Nat.log2_lt hx).mpr h
theorem mulOk_bd {i j : Int} {a b : Nat} (ha : Bd a i) (hb : Bd b j) (h0 : 0 < a) (h1 : 0 < b) (h : a + b ≤ 1000000) : mulOk i j = true := by
  have := log2_of h0 ha
  have := log2_of h1 hb
  exact tru_iff.mpr (.inr (by omega))
theorem mulOk_left {i j : Int} (h : Bd 64 i) : mulOk i j = true := by
  have h : i.natAbs < 2 ^ 64 := h
  exact tru_iff.mpr (.inl (.inl (by omega)))
theorem mulOk_right {i j : Int} (h : Bd 64 j) : mulOk i j = true := by
  have h : j.natAbs < 2 ^ 64 := h
  exact tru_iff.mpr (.inl (.inr (by omega)))
theorem divOk_bd {j : Int} {b : Nat} (h : j ≠ 0) (hb : Bd b j) (h0 : 0 < b) (h9 : b ≤ 9000) : divOk j = true := by
  have := log2_of h0 hb
  exact tru_iff.mpr ⟨h, by omega⟩
theorem powOk_bd {i j : Int} (h0 : 0 ≤ j) (h1 : j ≤ 1000000) (h : Bd 64 i) : powOk i j = true := tru_iff.mpr ⟨⟨h0, h1⟩, h⟩
theorem Bd.mul {i j : Int} {a b : Nat} (ha : Bd a i) (hb : Bd b j) : Bd (a + b) (i * j) := by
  show (i * j).natAbs < 2 ^ (a + b)
  rw [Int.natAbs_mul, Nat.pow_add]
  exact Nat.mul_lt_mul'' ha hb
theorem Bd.add {i j : Int} {a : Nat} (ha : Bd a i) (hb : Bd a j) : Bd (a + 1) (i + j) := by
  show (i + j).natAbs < 2 ^ (a + 1)
  have h1 : i.natAbs < 2 ^ a := ha
  have h2 : j.natAbs < 2 ^ a := hb
  have := Int.natAbs_add_le i j
  rw [Nat.pow_succ]; omega
theorem Bd.neg {i : Int} {a : Nat} (ha : Bd a i) : Bd a (-i) := by
  show (-i).natAbs < 2 ^ a
  rw [Int.natAbs_neg]; exact ha
theorem Bd.le {i j : Int} {a : Nat} (hb : Bd a j) (h : i.natAbs ≤ j.natAbs) : Bd a i := Nat.lt_of_le_of_lt h hb

theorem rng_in {i : Int} (h : -1000000 ≤ i) (h1 : i ≤ 1000000) : rngOk i = true := tru_iff.mpr ⟨Int.le_trans (by decide) h, Int.lt_of_le_of_lt h1 (by decide)⟩
theorem rng_nat {n : Nat} (h : n ≤ 1000000) : rngOk (n : Int) = true := rng_in (by omega) (by omega)
/-! ### loops -/
theorem forL_nil {tg : MG} {b : MS} {env : Env'} {g : Gh} : forL none tg b [] env g = .nx env g := by
  unfold forL; exact if_pos trivial
theorem forL_cons {tg : MG} {b : MS} {d : D} {ds : List D} {env : Env'} {g : Gh} : forL none tg b (d :: ds) env g = match tg d env with
      | none => .bad
      | some env1 => match b env1 g with
        | .nx env2 g2 => forL none tg b ds env2 g2
        | .ct env2 g2 => forL none tg b ds env2 g2
        | .bk env2 g2 => .nx env2 g2
        | r => r := by
  conv => lhs; unfold forL
  exact if_pos trivial
/-- a loop by what holds between two turns -/
theorem forL_inv {tg : MG} {b : MS} (I : Env' → Gh → Prop) : ∀ (ds : List D), (∀ d ∈ ds, ∀ env g, I env g → ∃ env1, tg d env = some env1 ∧ ∃ env2 g2, b env1 g = .nx env2 g2 ∧ I env2 g2) →
    ∀ env g, I env g → ∃ env' g', forL none tg b ds env g = .nx env' g' ∧ I env' g'
  | [], _, env, g, h => ⟨env, g, forL_nil, h⟩
  | d :: ds, hb, env, g, h => by
    obtain ⟨env1, e1, env2, g2, e2, h2⟩ := hb d List.mem_cons_self env g h
    obtain ⟨env', g', e3, h3⟩ := forL_inv I ds (fun d hd => hb d (List.mem_cons_of_mem _ hd)) env2 g2 h2
    refine ⟨env', g', ?_, h3⟩
    rw [forL_cons, e1]
    simp only [e2]
    exact e3
theorem compL_nil {tg : MG} {t : MT} {e : ME} {env : Env'} {g : Gh} : compL none tg t e [] env g = .ok [] g := by
  unfold compL; exact if_pos trivial
theorem compL_cons {tg : MG} {t : MT} {e : ME} {d : D} {ds : List D} {env : Env'} {g : Gh} : compL none tg t e (d :: ds) env g = match tg d env with
      | none => .bad
      | some env1 => match t env1 g with
        | .ok k g1 => if k then (match e env1 g1 with
            | .ok y g2 => (match compL none tg t e ds env g2 with
              | .ok ys g3 => .ok (y :: ys) g3
              | _ => .bad)
            | _ => .bad) else compL none tg t e ds env g1
        | _ => .bad := by
  conv => lhs; unfold compL
  exact if_pos trivial
/-- a comprehension whose items are reckoned by themselves -/
theorem compL_map {tg : MG} {t : MT} {e : ME} {env : Env'} {g : Gh} (p : D → Bool) (f : D → D) : ∀ (ds : List D), (∀ d ∈ ds, ∃ env1, tg d env = some env1 ∧ t env1 g = .ok (p d) g ∧ (p d = true → e env1 g = .ok (f d) g)) →
    compL none tg t e ds env g = .ok ((ds.filter p).map f) g
  | [], _ => compL_nil
  | d :: ds, h => by
    obtain ⟨env1, e1, e2, e3⟩ := h d List.mem_cons_self
    have ih := compL_map p f ds fun d hd => h d (List.mem_cons_of_mem _ hd)
    rw [compL_cons, e1]
    simp only [e2]
    cases hp : p d with
    | false => simp only [Bool.false_eq_true, if_false, List.filter_cons, hp]; exact ih
    | true => simp only [if_true, e3 hp, ih, List.filter_cons, hp, List.map_cons]
/-- .. whose items change the heap, each as told -/
theorem compL_inv {tg : MG} {e : ME} {env : Env'} (I : Gh → Prop) (Pd : D → Prop) : ∀ (ds : List D), (∀ d ∈ ds, ∀ g, I g → ∃ env1, tg d env = some env1 ∧ ∃ y g', e env1 g = .ok y g' ∧ Pd y ∧ I g') →
    ∀ g, I g → ∃ ys g', compL none tg tTrue e ds env g = .ok ys g' ∧ ys.length = ds.length ∧ (∀ y ∈ ys, Pd y) ∧ I g'
  | [], _, g, h => ⟨[], g, compL_nil, rfl, (fun _ q => nomatch q), h⟩
  | d :: ds, hb, g, h => by
    obtain ⟨env1, e1, y, g', e2, h2, h3⟩ := hb d List.mem_cons_self g h
    obtain ⟨ys, g2, e3, l, h4, h5⟩ := compL_inv I Pd ds (fun d hd => hb d (List.mem_cons_of_mem _ hd)) g' h3
    refine ⟨y :: ys, g2, ?_, by simp [l], ?_, h5⟩
    · rw [compL_cons, e1]
      simp only [tTrue_ap, if_true, e2, e3]
    · intro z hz
      rcases List.mem_cons.mp hz with rfl | hz
      · exact h2
      · exact h4 z hz
theorem rangeD_mem {lo : Int} {n : Nat} {d : D} (h : d ∈ rangeD lo n) : ∃ i : Nat, i < n ∧ d = .int (lo + i) := by
  obtain ⟨i, hi, rfl⟩ := List.mem_map.mp h
  exact ⟨i, List.mem_range.mp hi, rfl⟩
end GL
/-! GL part 16: numbers: the greatest common part, lowest terms; the bag of draws. -/
namespace GL
open PySem L2
/-! ### the greatest common part -/
noncomputable def B_common_part : MS := sSeq (sPar 0 1 (lCons (eBi oAbs (lCons (eLv 0) (lNil))) (lCons (eBi oAbs (lCons (eLv 1) (lNil))) (lNil)))) (sSeq (sWhile (tV (eCmp .NotEq (eLv 1) (eC (.int 0)))) (sPar 0 1 (lCons (eLv 1) (lCons (eBin .Sub (eLv 0) (eBin .Mult (eBin .FloorDiv (eLv 0) (eLv 1)) (eLv 1))) (lNil))))) (sRet (eLv 0)))
theorem fdiv_nat (m n : Nat) : ((m : Int).fdiv (n : Int)) = ((m / n : Nat) : Int) := by
  rw [Int.fdiv_eq_ediv_of_nonneg _ (by omega)]; rfl
theorem fmod_nat (m n : Nat) : ((m : Int).fmod (n : Int)) = ((m % n : Nat) : Int) := by
  rw [Int.fmod_eq_emod_of_nonneg _ (by omega)]; rfl
theorem rest_nat (m n : Nat) : (m : Int) - ((m / n : Nat) : Int) * (n : Int) = ((m % n : Nat) : Int) := by
  have h1 : ((m / n : Nat) : Int) * (n : Int) = ((m / n * n : Nat) : Int) := by rw [Int.natCast_mul]
  have h2 := Nat.div_add_mod' m n
  rw [h1]; omega
theorem bd_nat {n k : Nat} (h : n < 2 ^ k) : Bd k (n : Int) := by show (n : Int).natAbs < 2 ^ k; simpa using h
theorem bd_div {m n k : Nat} (h : m < 2 ^ k) : Bd k ((m / n : Nat) : Int) := bd_nat (Nat.lt_of_le_of_lt (Nat.div_le_self m n) h)
theorem cp_loop {K : Nat} (k0 : 0 < K) (k8 : K ≤ 8000) : ∀ (n m : Nat) (g : Gh), m < 2 ^ K → n < 2 ^ K →
    sWhile (tV (eCmp .NotEq (eLv 1) (eC (.int 0)))) (sPar 0 1 (lCons (eLv 1) (lCons (eBin .Sub (eLv 0) (eBin .Mult (eBin .FloorDiv (eLv 0) (eLv 1)) (eLv 1))) (lNil)))) [.val (.int m), .val (.int n)] g = .nx [.val (.int (Nat.gcd m n)), .val (.int 0)] g := by
  intro n
  induction n using Nat.strongRecOn with
  | ind n ih =>
    intro m g hm hn
    rw [sWhile_eq]
    by_cases h0 : n = 0
    · subst h0
      simp
    · have d1 : divOk (n : Int) = true := divOk_bd (by omega) (bd_nat hn) k0 (by omega)
      have d2 : mulOk ((m / n : Nat) : Int) (n : Int) = true := mulOk_bd (bd_div hm) (bd_nat hn) k0 k0 (by omega)
      have e0 : ¬ (n : Int) = 0 := by omega
      have hlt : m % n < n := Nat.mod_lt _ (by omega)
      have := ih (m % n) hlt n g hn (Nat.lt_trans hlt hn)
      simp [e0, h0, d1, d2, fdiv_nat, rest_nat, -Int.natCast_ediv, -Int.natCast_emod]
      rw [this, Nat.gcd_comm n (m % n), ← Nat.gcd_rec n m, Nat.gcd_comm n m]
theorem abs_if (a : Int) : (if a < 0 then -a else a) = (a.natAbs : Int) := by split <;> omega
theorem common_part_spec {K : Nat} {a b : Int} {g : Gh} (k0 : 0 < K) (k8 : K ≤ 8000) (ha : Bd K a) (hb : Bd K b) : mFun 2 2 B_common_part [.int a, .int b] g = .ok (.int (Int.gcd a b)) g := by
  have := cp_loop k0 k8 b.natAbs a.natAbs g ha hb
  simp [mFun, B_common_part, abs_if, this, endR, Int.gcd]
/-! ### lowest terms -/
/-- top and under of a ratio in lowest terms -/
def lowT (a b : Int) : Int := (if b < 0 then -a else a) / (Int.gcd a b : Int)
def lowU (a b : Int) : Int := (if b < 0 then -b else b) / (Int.gcd a b : Int)
theorem gcd_pos {a b : Int} (h : b ≠ 0) : 0 < (Int.gcd a b : Int) := by
  have : 0 < Int.gcd a b := Nat.pos_of_ne_zero (fun e => h (Int.gcd_eq_zero_iff.mp e).2)
  omega
theorem fdiv_neg_exact {a g : Int} (h : g ∣ a) (hg : 0 < g) : a.fdiv (-g) = (-a) / g := by
  obtain ⟨q, rfl⟩ := h
  have e1 : g * q = (-g) * (-q) := by rw [Int.neg_mul_neg]
  rw [e1, Int.mul_fdiv_cancel_left _ (by omega : -g ≠ 0), Int.neg_mul_neg, ← Int.mul_neg, Int.mul_ediv_cancel_left _ (by omega : g ≠ 0)]
noncomputable def B_lowest (f : FM) : MS := sSeq (sSet 2 (eCall f 2 0 [0, 1] [] (lCons (eLv 0) (lCons (eLv 1) (lNil))) (lNil))) (sSeq (sIf (tV (eCmp .Lt (eLv 1) (eC (.int 0)))) (sSet 2 (eNeg (eLv 2))) (sSkip)) (sRet (eTup (lCons (eBin .FloorDiv (eLv 0) (eLv 2)) (lCons (eBin .FloorDiv (eLv 1) (eLv 2)) (lNil))))))
theorem bd_gcd {a b : Int} {k : Nat} (h : b ≠ 0) (hb : Bd k b) : Bd k (Int.gcd a b : Int) := by
  refine Bd.le hb ?_
  have : Int.gcd a b ∣ b.natAbs := Int.gcd_dvd_natAbs_right ..
  have := Nat.le_of_dvd (by omega) this
  simpa using this
theorem lowest_spec {K : Nat} {f : FM} {a b : Int} {g : Gh} (k0 : 0 < K) (k8 : K ≤ 8000) (hf : f [.int a, .int b] g = .ok (.int (Int.gcd a b)) g) (h : b ≠ 0) (hb : Bd K b) : mFun 2 3 (B_lowest f) [.int a, .int b] g = .ok (.tup [.int (lowT a b), .int (lowU a b)]) g := by
  have hp := gcd_pos (a := a) h
  have hl : (2 : Nat) ≤ LIM := by decide
  by_cases hn : b < 0
  · have d1 : divOk (-(Int.gcd a b : Int)) = true := divOk_bd (by omega) (bd_gcd h hb).neg k0 (by omega)
    simp [mFun, B_lowest, hf, permL, hn, d1, endR, lowT, lowU, hl, fdiv_neg_exact (Int.gcd_dvd_left a b) hp, fdiv_neg_exact (Int.gcd_dvd_right a b) hp]
  · have d1 : divOk (Int.gcd a b : Int) = true := divOk_bd (by omega) (bd_gcd h hb) k0 (by omega)
    simp [mFun, B_lowest, hf, permL, hn, d1, endR, lowT, lowU, hl, Int.fdiv_eq_ediv_of_nonneg _ (Int.le_of_lt hp)]
/-- the law's own way -/
noncomputable def B_law_lowest : MS := sSeq (sPar 2 3 (lCons (eBi oAbs (lCons (eLv 0) (lNil))) (lCons (eBi oAbs (lCons (eLv 1) (lNil))) (lNil)))) (sSeq (sWhile (tV (eCmp .NotEq (eLv 3) (eC (.int 0)))) (sPar 2 3 (lCons (eLv 3) (lCons (eBin .Mod (eLv 2) (eLv 3)) (lNil))))) (sSeq (sSet 4 (eSub (eNew (fLst (lCons (eC (.int 1)) (lCons (eNeg (eC (.int 1))) (lNil))))) (eBi oInt (lCons (eCmp .Lt (eLv 1) (eC (.int 0))) (lNil))))) (sRet (eTup (lCons (eBin .FloorDiv (eBin .Mult (eLv 4) (eLv 0)) (eLv 2)) (lCons (eBin .FloorDiv (eBin .Mult (eLv 4) (eLv 1)) (eLv 2)) (lNil)))))))
theorem ll_loop (x y z : Sl) : ∀ (n m : Nat) (g : Gh),
    sWhile (tV (eCmp .NotEq (eLv 3) (eC (.int 0)))) (sPar 2 3 (lCons (eLv 3) (lCons (eBin .Mod (eLv 2) (eLv 3)) (lNil)))) [x, y, .val (.int m), .val (.int n), z] g = .nx [x, y, .val (.int (Nat.gcd m n)), .val (.int 0), z] g := by
  intro n
  induction n using Nat.strongRecOn with
  | ind n ih =>
    intro m g
    rw [sWhile_eq]
    by_cases h0 : n = 0
    · subst h0
      simp
    · have e0 : ¬ (n : Int) = 0 := by omega
      have hlt : m % n < n := Nat.mod_lt _ (by omega)
      have := ih (m % n) hlt n g
      simp [e0, h0, fmod_nat, -Int.natCast_emod]
      rw [this, Nat.gcd_comm n (m % n), ← Nat.gcd_rec n m, Nat.gcd_comm n m]
theorem law_lowest_spec {K : Nat} {a b : Int} {g : Gh} (k0 : 0 < K) (k8 : K ≤ 8000) (h : b ≠ 0) (hb : Bd K b) : mFun 2 5 B_law_lowest [.int a, .int b] g = .ok (.tup [.int (lowT a b), .int (lowU a b)]) g := by
  have hp := gcd_pos (a := a) h
  have hl : (2 : Nat) ≤ LIM := by decide
  have d1 : divOk (Int.gcd a b : Int) = true := divOk_bd (by omega) (bd_gcd h hb) k0 (by omega)
  have d1' : divOk ((a.natAbs.gcd b.natAbs : Nat) : Int) = true := d1
  have lp := ll_loop (.val (.int a)) (.val (.int b)) .un b.natAbs a.natAbs g
  have m1 : ∀ z : Int, mulOk 1 z = true := fun z => mulOk_left (by decide)
  have m2 : ∀ z : Int, mulOk (-1) z = true := fun z => mulOk_left (by decide)
  have fd : ∀ z : Int, z.fdiv ((a.natAbs.gcd b.natAbs : Nat) : Int) = z / (Int.gcd a b : Int) := fun z => Int.fdiv_eq_ediv_of_nonneg _ (by omega)
  have eb : (b.natAbs : Int) = if b < 0 then -b else b := (abs_if b).symm
  have ea : (a.natAbs : Int) = if a < 0 then -a else a := (abs_if a).symm
  rw [ea, eb] at lp
  by_cases hn : b < 0
  · simp only [hn, if_true] at lp
    simp [mFun, B_law_lowest, lp, hn, hl, atI, ixN, m2, d1', endR, lowT, lowU, fd]
  · simp only [hn, if_false] at lp
    simp [mFun, B_law_lowest, lp, hn, hl, atI, ixN, m1, d1', endR, lowT, lowU, fd]

/-! ### ratios in lowest terms -/
/-- a ratio: lowest terms, under above 0 -/
structure IsR (p q : Int) : Prop where
  pos : 0 < q
  low : Int.gcd p q = 1
theorem low_isR {a b : Int} (h : b ≠ 0) : IsR (lowT a b) (lowU a b) := by
  have hp := gcd_pos (a := a) h
  have hg : 0 < Int.gcd a b := by omega
  have key : ∀ x y : Int, Int.gcd x y = Int.gcd a b → 0 < y → 0 < y / (Int.gcd a b : Int) ∧ Int.gcd (x / (Int.gcd a b : Int)) (y / (Int.gcd a b : Int)) = 1 := fun x y e hy => by
    have dx : (Int.gcd a b : Int) ∣ x := by rw [← e]; exact Int.gcd_dvd_left x y
    have dy : (Int.gcd a b : Int) ∣ y := by rw [← e]; exact Int.gcd_dvd_right x y
    refine ⟨?_, ?_⟩
    · obtain ⟨k, rfl⟩ := dy
      rw [Int.mul_ediv_cancel_left _ (by omega)]
      exact Int.pos_of_mul_pos_left (by rw [Int.mul_comm]; exact hy) hp
    · rw [Int.gcd_ediv dx dy, e]
      simp only [Int.natAbs_natCast]
      exact Nat.div_self hg
  unfold lowT lowU
  by_cases hn : b < 0
  · simp only [hn, if_true]
    obtain ⟨h1, h2⟩ := key (-a) (-b) (by rw [Int.gcd_neg, Int.neg_gcd]) (by omega)
    exact ⟨h1, h2⟩
  · simp only [hn, if_false]
    obtain ⟨h1, h2⟩ := key a b rfl (by omega)
    exact ⟨h1, h2⟩
theorem bd_lowT {a b : Int} {k : Nat} (ha : Bd k a) : Bd k (lowT a b) := by
  have h1 : a.natAbs < 2 ^ k := ha
  show (lowT a b).natAbs < 2 ^ k
  unfold lowT
  have : ∀ x : Int, x.natAbs = a.natAbs → (x / (Int.gcd a b : Int)).natAbs < 2 ^ k := fun x e => by
    have := Int.natAbs_ediv_le_natAbs x (Int.gcd a b : Int)
    omega
  by_cases hn : b < 0
  · simp only [hn, if_true]; exact this _ (by omega)
  · simp only [hn, if_false]; exact this _ rfl
theorem bd_lowU {a b : Int} {k : Nat} (hb : Bd k b) : Bd k (lowU a b) := by
  have h1 : b.natAbs < 2 ^ k := hb
  show (lowU a b).natAbs < 2 ^ k
  unfold lowU
  have : ∀ x : Int, x.natAbs = b.natAbs → (x / (Int.gcd a b : Int)).natAbs < 2 ^ k := fun x e => by
    have := Int.natAbs_ediv_le_natAbs x (Int.gcd a b : Int)
    omega
  by_cases hn : b < 0
  · simp only [hn, if_true]; exact this _ (by omega)
  · simp only [hn, if_false]; exact this _ rfl
end GL
/-! GL part 17: the bag of draws. -/
namespace GL
open PySem L2
noncomputable def bagIf : MS := (sIf (tV (eCmp .Lt (eLv 1) (eBi oLen (lCons (eLv 0) (lNil))))) (sSet 2 (eBi oAbs (lCons (eSub (eLv 0) (eLv 1)) (lNil)))) (sSkip))
noncomputable def B_bag : MS := sSeq (sSet 2 (eC (.int 0))) (sSeq bagIf (sSeq (sSet 3 (eSub (eNew (fLst (lCons (eC (.int 2147483629)) (lCons (eC (.int 2147483587)) (lCons (eC (.int 2147483579)) (lCons (eC (.int 2147483563)) (lCons (eC (.int 2147483549)) (lCons (eC (.int 2147483543)) (lCons (eC (.int 2147483497)) (lCons (eC (.int 2147483489)) (lNil))))))))))) (eBin .Mod (eLv 1) (eC (.int 8))))) (sRet (eAlloc (fLst (lCons (eBin .Mult (eLv 2) (eBi oInt (lCons (eCmp .GtE (eLv 2) (eBin .Pow (eC (.int 10)) (eC (.int 18)))) (lNil)))) (lCons (eBin .Mod (eBin .Pow (eBin .Add (eBin .Add (eBin .Mod (eLv 2) (eC (.int 2147483647))) (eBin .Mult (eC (.int 104729)) (eLv 1))) (eC (.int 7))) (eC (.int 5))) (eLv 3)) (lCons (eLv 3) (lCons (eC (.int 0)) (lNil))))))))))
noncomputable def B_take : MS := sSeq (sIf (tV (eCmp .Gt (eSub (eLv 0) (eC (.int 0))) (eC (.int 0)))) (sSeq (sSet 2 (eBin .Mod (eSub (eLv 0) (eC (.int 0))) (eLv 1))) (sSeq (sSetIx (eBin .FloorDiv (eSub (eLv 0) (eC (.int 0))) (eLv 1)) (eLv 0) (eC (.int 0))) (sRet (eLv 2)))) (sSkip)) (sSeq (sSetIx (eBin .Add (eSub (eLv 0) (eC (.int 3))) (eC (.int 1))) (eLv 0) (eC (.int 3))) (sSeq (sSetIx (eBin .Mod (eBin .Add (eBin .Add (eBin .Mult (eSub (eLv 0) (eC (.int 1))) (eC (.int 48271))) (eBin .Mult (eC (.int 7919)) (eSub (eLv 0) (eC (.int 3))))) (eC (.int 11))) (eSub (eLv 0) (eC (.int 2)))) (eLv 0) (eC (.int 1))) (sRet (eBin .Mod (eBin .Mod (eBin .Pow (eBin .FloorDiv (eSub (eLv 0) (eC (.int 1))) (eC (.int 8))) (eC (.int 3))) (eC (.int 2147483629))) (eLv 1)))))
/-- the bag as a mutable object -/
def Bag (o : O) : Prop := ∃ a b c d : Int, o = .lst [.int a, .int b, .int c, .int d] ∧ 0 ≤ a ∧ (0 ≤ b ∧ b < 4294967296) ∧ (0 < c ∧ c < 4294967296)
def HasBag (n : Nat) (g : Gh) : Prop := ∃ o, g[n]? = some o ∧ Bag o
theorem fmod_lo {a m : Int} (h : 0 < m) : 0 ≤ a.fmod m := Int.fmod_nonneg_of_pos a h
theorem fmod_hi {a m : Int} (h : 0 < m) : a.fmod m < m := Int.fmod_lt_of_pos a h
theorem fdiv_lo {a m : Int} (h0 : 0 ≤ a) (h : 0 < m) : 0 ≤ a.fdiv m := by
  rw [Int.fdiv_eq_ediv_of_nonneg _ (Int.le_of_lt h)]; exact Int.ediv_nonneg h0 (Int.le_of_lt h)
theorem fdiv_le {a m : Int} (h0 : 0 ≤ a) (h : 0 < m) : a.fdiv m ≤ a := by
  rw [Int.fdiv_eq_ediv_of_nonneg _ (Int.le_of_lt h)]; exact Int.ediv_le_self _ h0
theorem atI4 {x0 x1 x2 x3 : D} : atI [x0, x1, x2, x3] 0 = some x0 ∧ atI [x0, x1, x2, x3] 1 = some x1 ∧ atI [x0, x1, x2, x3] 2 = some x2 ∧ atI [x0, x1, x2, x3] 3 = some x3 := ⟨rfl, rfl, rfl, rfl⟩
theorem ix4 : ixN 4 0 = some 0 ∧ ixN 4 1 = some 1 ∧ ixN 4 3 = some 3 := ⟨rfl, rfl, rfl⟩
theorem set_get {g : Gh} {n : Nat} {o o' : O} (h : g[n]? = some o) : (g.set n o')[n]? = some o' := by
  obtain ⟨hl, _⟩ := List.getElem?_eq_some_iff.mp h
  simp [hl]
theorem take_o {n : Nat} {g : Gh} {o : O} {m : Int} (hg : g[n]? = some o) (hb : Bag o) (h0 : 0 < m) (h1 : Bd 64 m) :
    ∃ r o', (0 ≤ r ∧ r < m) ∧ Bag o' ∧ mFun 2 3 B_take [.loc n, .int m] g = .ok (.int r) (g.set n o') := by
  obtain ⟨a, b, c, d, rfl, ha, ⟨hb0, hb1⟩, hc0, hc1⟩ := hb
  have hd := deref_loc hg
  have hm : m ≠ 0 := by omega
  by_cases hp : 0 < a
  · have d1 : divOk m = true := divOk_bd hm h1 (by decide) (by decide)
    refine ⟨a.fmod m, .lst [.int (a.fdiv m), .int b, .int c, .int d], ⟨fmod_lo h0, fmod_hi h0⟩, ⟨_, _, _, _, rfl, fdiv_lo ha h0, ⟨hb0, hb1⟩, hc0, hc1⟩, ?_⟩
    simp [mFun, B_take, hd, atI4, ix4, hp, hm, d1, hg, endR]
  · have hc : c ≠ 0 := by omega
    have e1 := set_get (o' := .lst [.int a, .int b, .int c, .int (d + 1)]) hg
    have hd1 := deref_loc e1
    have f1 : (0 : Int) ≤ (b * 48271 + 7919 * (d + 1) + 11).fmod c := fmod_lo hc0
    have f2 : (b * 48271 + 7919 * (d + 1) + 11).fmod c < c := fmod_hi hc0
    have e2 := set_get (o' := .lst [.int a, .int ((b * 48271 + 7919 * (d + 1) + 11).fmod c), .int c, .int (d + 1)]) hg
    have hd2 := deref_loc e2
    have m1 : ∀ x : Int, mulOk x 48271 = true := fun x => mulOk_right (by decide)
    have m2 : ∀ x : Int, mulOk 7919 x = true := fun x => mulOk_left (by decide)
    have d1 : divOk 8 = true := divOk_bd (b := 4) (by decide) (by decide) (by decide) (by decide)
    have q1 := fdiv_lo f1 (m := 8) (by decide)
    have q2 := fdiv_le f1 (m := 8) (by decide)
    have p1 : powOk (((b * 48271 + 7919 * (d + 1) + 11).fmod c).fdiv 8) 3 = true := powOk_bd (by decide) (by decide) (by show Int.natAbs _ < 2 ^ 64; omega)
    refine ⟨((((b * 48271 + 7919 * (d + 1) + 11).fmod c).fdiv 8) ^ 3).fmod 2147483629 |>.fmod m, .lst [.int a, .int ((b * 48271 + 7919 * (d + 1) + 11).fmod c), .int c, .int (d + 1)], ⟨fmod_lo h0, fmod_hi h0⟩, ⟨_, _, _, _, rfl, ha, ⟨f1, by omega⟩, hc0, hc1⟩, ?_⟩
    simp [mFun, B_take, hd, hd1, hd2, atI4, ix4, hp, hc, hm, d1, m1, m2, p1, hg, e1, e2, endR]
/-- a draw keeps the bag, and all else -/
theorem take_spec {n : Nat} {g : Gh} {m : Int} (hb : HasBag n g) (h0 : 0 < m) (h1 : Bd 64 m) :
    ∃ r g', (0 ≤ r ∧ r < m) ∧ (HasBag n g' ∧ g'.length = g.length ∧ ∀ j, j ≠ n → g'[j]? = g[j]?) ∧ mFun 2 3 B_take [.loc n, .int m] g = .ok (.int r) g' := by
  obtain ⟨o, hg, ho⟩ := hb
  obtain ⟨r, o', hr, ho', e⟩ := take_o hg ho h0 h1
  refine ⟨r, _, hr, ⟨⟨o', set_get hg, ho'⟩, by simp, fun j hj => ?_⟩, e⟩
  rw [List.getElem?_set_ne (Ne.symm hj)]
theorem bag_spec {ns : List Int} {k : Nat} {g : Gh} (hk : k ≤ 1000000) : ∃ o, Bag o ∧ mFun 2 4 B_bag [.arr ns, .int k] g = .ok (.loc g.length) (g ++ [o]) := by
  have m1 : ∀ x : Int, mulOk 104729 x = true := fun x => mulOk_left (by decide)
  have m2 : ∀ x : Int, mulOk x 1 = true := fun x => mulOk_right (by decide)
  have m3 : ∀ x : Int, mulOk x 0 = true := fun x => mulOk_right (by decide)
  have hl : (8 : Nat) ≤ LIM := by decide
  have hl4 : (4 : Nat) ≤ LIM := by decide
  have p0 : powOk 10 18 = true := powOk_bd (by decide) (by decide) (by decide)
  obtain ⟨p, hp0, hp1, hpr⟩ : ∃ p : Int, 0 < p ∧ p < 4294967296 ∧ atI [D.int 2147483629, .int 2147483587, .int 2147483579, .int 2147483563, .int 2147483549, .int 2147483543, .int 2147483497, .int 2147483489] ((k : Int).fmod 8) = some (.int p) := by
    have h1 := fmod_lo (a := (k : Int)) (m := 8) (by decide)
    have h2 := fmod_hi (a := (k : Int)) (m := 8) (by decide)
    generalize (k : Int).fmod 8 = z at *
    have : z = 0 ∨ z = 1 ∨ z = 2 ∨ z = 3 ∨ z = 4 ∨ z = 5 ∨ z = 6 ∨ z = 7 := by omega
    rcases this with rfl | rfl | rfl | rfl | rfl | rfl | rfl | rfl <;> exact ⟨_, by decide, by decide, rfl⟩
  have hpn : p ≠ 0 := by omega
  have fin : ∀ G : Int, 0 ≤ G → (∀ g : Gh, bagIf [.val (.arr ns), .val (.int k), .val (.int 0), .un] g = .nx [.val (.arr ns), .val (.int k), .val (.int G), .un] g) → ∃ o, Bag o ∧ mFun 2 4 B_bag [.arr ns, .int k] g = .ok (.loc g.length) (g ++ [o]) := fun G hG e => by
    have f1 := fmod_lo (a := G) (m := 2147483647) (by decide)
    have f2 := fmod_hi (a := G) (m := 2147483647) (by decide)
    have p1 : powOk (G.fmod 2147483647 + 104729 * (k : Int) + 7) 5 = true := powOk_bd (by decide) (by decide) (by show Int.natAbs _ < 2 ^ 64; omega)
    by_cases hg : 1000000000000000000 ≤ G
    · refine ⟨.lst [.int G, .int (((G.fmod 2147483647 + 104729 * (k : Int) + 7) ^ 5).fmod p), .int p, .int 0], ⟨_, _, _, _, rfl, hG, ⟨fmod_lo hp0, Int.lt_trans (fmod_hi hp0) hp1⟩, hp0, hp1⟩, ?_⟩
      simp [mFun, B_bag, e, hpr, hl, p0, p1, m1, m2, hpn, hg, hl4, endR]
    · refine ⟨.lst [.int 0, .int (((G.fmod 2147483647 + 104729 * (k : Int) + 7) ^ 5).fmod p), .int p, .int 0], ⟨_, _, _, _, rfl, by decide, ⟨fmod_lo hp0, Int.lt_trans (fmod_hi hp0) hp1⟩, hp0, hp1⟩, ?_⟩
      simp [mFun, B_bag, e, hpr, hl, p0, p1, m1, m3, hpn, hg, hl4, endR]
  by_cases hlt : k < ns.length
  · have : atI ns (k : Int) = some ns[k] := by
      unfold atI
      rw [ixN_nat hlt]
      simp [hlt]
    refine fin (if ns[k] < 0 then -ns[k] else ns[k]) (by split <;> omega) fun g => ?_
    simp [bagIf, hlt, this]
  · refine fin 0 (by decide) fun g => ?_
    simp [bagIf, hlt]
end GL
/-! GL part 18: what may be shown by repr; equal data. -/
namespace GL
open PySem L2
mutual
/-- all ints of less than k bits -/
def bdD (k : Nat) : D → Bool
  | .int i => decide (i.natAbs < 2 ^ k)
  | .tup xs => bdDs k xs
  | .lst xs => bdDs k xs
  | _ => true
def bdDs (k : Nat) : List D → Bool
  | [] => true
  | x :: xs => bdD k x && bdDs k xs
end
mutual
theorem short_of (k : Nat) (h0 : 0 < k) (h1 : k ≤ 1920) : ∀ (d : D) (n : Nat), okD d n = true → bdD k d = true → (toP d).leavesShort (k + 1) = true ∧ (toP d).showable = true
  | .non, _, _, _ => ⟨rfl, rfl⟩
  | .bl _, _, _, _ => ⟨rfl, rfl⟩
  | .loc _, _, _, _ => ⟨rfl, rfl⟩
  | .fn _, _, _, _ => ⟨rfl, rfl⟩
  | .arr _, _, _, _ => ⟨rfl, rfl⟩
  | .int i, _, _, h => by
    have h : i.natAbs < 2 ^ k := by simpa only [bdD, decide_eq_true_eq] using h
    have hl : i.natAbs.log2 < k := log2_of h0 h
    refine ⟨?_, ?_⟩
    · simp only [toP, PyData.leavesShort, decide_eq_true_eq]
      show (PySem.Str.ofString (toString i)).length ≤ _
      rw [PySem.ofString_length]
      exact PySem.int_text_length_le (k := k) h0 hl
    · simp only [toP, PyData.showable, decide_eq_true_eq]; omega
  | .str x, n, h, _ => by
    have h : PyData.strOk x = true := by simpa only [okD] using h
    refine ⟨PyData.leavesShort_of_canLay0 _ _ (by simpa only [toP, PyData.canLay0] using h) rfl, rfl⟩
  | .tup xs, 0, h, _ => by simp only [okD] at h; exact nomatch h
  | .tup xs, n + 1, h, hb => by
    have := shorts_of k h0 h1 xs n (by simpa only [okD] using h) (by simpa only [bdD] using hb)
    simpa only [toP, PyData.leavesShort, PyData.showable] using this
  | .lst xs, 0, h, _ => by simp only [okD] at h; exact nomatch h
  | .lst xs, n + 1, h, hb => by
    have := shorts_of k h0 h1 xs n (by simpa only [okD] using h) (by simpa only [bdD] using hb)
    simpa only [toP, PyData.leavesShort, PyData.showable] using this
theorem shorts_of (k : Nat) (h0 : 0 < k) (h1 : k ≤ 1920) : ∀ (xs : List D) (n : Nat), okDs xs n = true → bdDs k xs = true → PyData.leavesShortAll (k + 1) (toPs xs) = true ∧ PyData.showableAll (toPs xs) = true
  | [], _, _, _ => ⟨rfl, rfl⟩
  | x :: xs, n, h, hb => by
    have h : okD x n = true ∧ okDs xs n = true := by simpa only [okDs, Bool.and_eq_true] using h
    have hb : bdD k x = true ∧ bdDs k xs = true := by simpa only [bdDs, Bool.and_eq_true] using hb
    have a := short_of k h0 h1 x n h.1 hb.1
    have b := shorts_of k h0 h1 xs n h.2 hb.2
    simp only [toPs, PyData.leavesShortAll, PyData.showableAll, a.1, a.2, b.1, b.2, Bool.and_self, and_self]
end
mutual
/-- how long data may be shown, ints of less than k bits -/
def wtD (k : Nat) : D → Nat
  | .str x => 10 * x.length + 2
  | .tup xs => wtDs k xs + 3
  | .lst xs => wtDs k xs + 3
  | .int _ => k + 1
  | _ => 5
def wtDs (k : Nat) : List D → Nat
  | [] => 0
  | x :: xs => wtD k x + 2 + wtDs k xs
end
mutual
theorem wt_le (k : Nat) : ∀ d : D, (toP d).leavesShort (k + 1) = true → (toP d).shown.length ≤ wtD k d
  | .non, _ => show (PyData.shown .none).length ≤ 5 from by decide
  | .bl true, _ => show (PyData.shown (.bool true)).length ≤ 5 from by decide
  | .bl false, _ => show (PyData.shown (.bool false)).length ≤ 5 from by decide
  | .loc _, _ => show (PyData.shown .none).length ≤ 5 from by decide
  | .fn _, _ => show (PyData.shown .none).length ≤ 5 from by decide
  | .arr _, _ => show (PyData.shown .none).length ≤ 5 from by decide
  | .int i, h => by simpa only [toP, PyData.leavesShort, decide_eq_true_eq, wtD] using h
  | .str x, h => by
    simp only [toP, PyData.leavesShort, List.all_eq_true, decide_eq_true_eq] at h
    simp only [toP, wtD, PyData.shown]
    exact StrLaws.reprText_len x h
  | .tup xs, h => by
    have h1 := wts_le k xs (by simpa only [toP, PyData.leavesShort] using h)
    have h2 := tupleText_len_le (PyData.shownAll (toPs xs))
    simp only [toP, PyData.shown, wtD]
    omega
  | .lst xs, h => by
    have h1 := wts_le k xs (by simpa only [toP, PyData.leavesShort] using h)
    have h2 := listText_len_le (PyData.shownAll (toPs xs))
    simp only [toP, PyData.shown, wtD]
    omega
theorem wts_le (k : Nat) : ∀ xs : List D, PyData.leavesShortAll (k + 1) (toPs xs) = true → ((PyData.shownAll (toPs xs)).map (·.length)).sum + 2 * (PyData.shownAll (toPs xs)).length ≤ wtDs k xs
  | [], _ => by simp only [toPs, PyData.shownAll, List.map_nil, List.sum_nil, List.length_nil]; omega
  | x :: xs, h => by
    have h : (toP x).leavesShort (k + 1) = true ∧ PyData.leavesShortAll (k + 1) (toPs xs) = true := by simpa only [toPs, PyData.leavesShortAll, Bool.and_eq_true] using h
    have a := wt_le k x h.1
    have b := wts_le k xs h.2
    simp only [toPs, PyData.shownAll, wtDs, List.map_cons, List.sum_cons, List.length_cons]; omega
end
theorem rpr_ok (k w : Nat) {d : D} (h0 : 0 < k) (h1 : k ≤ 1920) (ho : okD d 64 = true) (hb : bdD k d = true) (hw : wtD k d ≤ w) (hl : w ≤ LIM) : rprOk d = true := by
  have a := short_of k h0 h1 d 64 ho hb
  have c := wt_le k d a.1
  simp only [rprOk, ho, a.2, Bool.true_and, decide_eq_true_eq]
  show (toP d).shown.length ≤ LIM
  omega
mutual
theorem eqD_rfl : ∀ (d : D) (n : Nat), okD d n = true → eqD d d = true
  | .non, _, _ => rfl
  | .bl b, _, _ => by simp [eqD]
  | .int i, _, _ => by simp [eqD]
  | .str x, _, _ => by simp [eqD]
  | .tup xs, 0, h => by simp only [okD] at h; exact nomatch h
  | .tup xs, n + 1, h => by simp only [okD] at h; simp only [eqD]; exact eqDs_rfl xs n h
  | .lst xs, 0, h => by simp only [okD] at h; exact nomatch h
  | .lst xs, n + 1, h => by simp only [okD] at h; simp only [eqD]; exact eqDs_rfl xs n h
  | .loc _, _, h => by simp only [okD] at h; exact nomatch h
  | .fn _, _, h => by simp only [okD] at h; exact nomatch h
  | .arr _, _, h => by simp only [okD] at h; exact nomatch h
theorem eqDs_rfl : ∀ (xs : List D) (n : Nat), okDs xs n = true → eqDs xs xs = true
  | [], _, _ => rfl
  | x :: xs, n, h => by
    have h : okD x n = true ∧ okDs xs n = true := by simpa only [okDs, Bool.and_eq_true] using h
    simp only [eqDs, eqD_rfl x n h.1, eqDs_rfl xs n h.2, Bool.and_self]
end
theorem okD_deref {d : D} {n : Nat} {g : Gh} (h : okD d n = true) : deref g d = d := by
  cases d <;> first | rfl | (simp only [okD] at h; exact nomatch h)
/-- != of data that are the same -/
theorem ne_same {d : D} {g : Gh} (h : okD d 64 = true) : cmpop .NotEq d d g = .ok (.bl false) g := by
  rw [ne_ap, okD_deref h, okE, h, eqD_rfl d 64 h, Bool.and_self, Bool.and_self, Bool.or_true]; rfl
theorem eq_same {d : D} {g : Gh} (h : okD d 64 = true) : cmpop .Eq d d g = .ok (.bl true) g := by
  rw [eq_ap, okD_deref h, okE, h, eqD_rfl d 64 h, Bool.and_self, Bool.and_self, Bool.or_true]; rfl
/-- repr of data, whole -/
theorem repr_ap {d : D} {g : Gh} (h : rprOk d = true) : oRepr [d] g = .ok (.str (reprS d)) g := by
  have h' := h
  simp only [rprOk, Bool.and_eq_true] at h'
  show guardR (rprOk (deref g d)) (.str (reprS (deref g d))) g = _
  rw [okD_deref h'.1.1, h]; rfl
theorem neS_ap {x y : Str} {g : Gh} : cmpop .NotEq (.str x) (.str y) g = .ok (.bl (!(x == y))) g := by
  rw [ne_ap]; simp [okE, strD, eqD]
theorem eqS_ap {x y : Str} {g : Gh} : cmpop .Eq (.str x) (.str y) g = .ok (.bl (x == y)) g := by
  rw [eq_ap]; simp [okE, strD, eqD]
@[simp] theorem neS_same {x : Str} {g : Gh} : cmpop .NotEq (.str x) (.str x) g = .ok (.bl false) g := by
  rw [neS_ap]; simp
@[simp] theorem eqS_same {x : Str} {g : Gh} : cmpop .Eq (.str x) (.str x) g = .ok (.bl true) g := by
  rw [eqS_ap]; simp
theorem eqS_no {x y : Str} {g : Gh} (h : (x == y) = false) : cmpop .Eq (.str x) (.str y) g = .ok (.bl false) g := by
  rw [eqS_ap, h]
theorem asBls_true : ∀ xs : List D, (∀ x ∈ xs, x = .bl true) → ∃ bs, asBls xs = some bs ∧ bs.all id = true
  | [], _ => ⟨[], rfl, rfl⟩
  | x :: xs, h => by
    obtain ⟨bs, e, a⟩ := asBls_true xs fun x hx => h x (List.mem_cons_of_mem _ hx)
    have := h x List.mem_cons_self
    subst this
    exact ⟨true :: bs, by simp [asBls, e], by simpa using a⟩
theorem all_true {xs : List D} {g : Gh} (h : ∀ x ∈ xs, x = .bl true) : oAll [.lst xs] g = .ok (.bl true) g := by
  obtain ⟨bs, e, a⟩ := asBls_true xs h
  simp [oAll, e, a]
end GL
/-! GL part 19: ratios as rational numbers. -/
namespace GL
open PySem L2
theorem bd_of {n : Nat} {x : Int} (h : x.natAbs < 2 ^ n) : Bd n x := h
theorem a20 {x y : D} : atI [x, y] 0 = some x := rfl
theorem a21 {x y : D} : atI [x, y] 1 = some y := rfl
theorem lim2 : (2 : Nat) ≤ LIM := by decide
theorem lim3 : (3 : Nat) ≤ LIM := by decide
theorem lim4 : (4 : Nat) ≤ LIM := by decide
theorem lim5 : (5 : Nat) ≤ LIM := by decide
theorem lim8 : (8 : Nat) ≤ LIM := by decide
/-- a ratio in lowest terms -/
def dR (r : Rat) : D := .tup [.int r.num, .int r.den]
theorem low_rat {a b : Int} (h : b ≠ 0) : D.tup [.int (lowT a b), .int (lowU a b)] = dR (Rat.divInt a b) := by
  unfold dR lowT lowU
  rw [Rat.num_divInt, Rat.den_divInt, if_neg h, Int.gcd_comm b a]
  have hu : (((b.natAbs / Int.gcd a b : Nat)) : Int) = (b.natAbs : Int) / (Int.gcd a b : Int) := Int.natCast_ediv ..
  rw [hu]
  by_cases hn : b < 0
  · rw [if_pos hn, if_pos hn, Int.sign_eq_neg_one_of_neg hn, show (b.natAbs : Int) = -b by omega, Int.neg_one_mul]
  · rw [if_neg hn, if_neg hn, Int.sign_eq_one_of_pos (by omega), show (b.natAbs : Int) = b by omega, Int.one_mul]
/-- both parts of less than k bits -/
def Sz (k : Nat) (r : Rat) : Prop := Bd k r.num ∧ Bd k (r.den : Int)
theorem Sz.mono {k l : Nat} {r : Rat} (h : Sz k r) (hl : k ≤ l) : Sz l r := ⟨h.1.mono hl, h.2.mono hl⟩
theorem dR_inj {r s : Rat} (h : dR r = dR s) : r = s := by
  simp only [dR, D.tup.injEq, List.cons.injEq, D.int.injEq, and_true] at h
  exact Rat.ext h.1 (by omega)
theorem Sz.div {k : Nat} {a b : Int} (h : b ≠ 0) (ha : Bd k a) (hb : Bd k b) : Sz k (Rat.divInt a b) := by
  have e := low_rat (a := a) h
  simp only [dR, D.tup.injEq, List.cons.injEq, D.int.injEq, and_true] at e
  exact ⟨e.1 ▸ bd_lowT ha, e.2 ▸ bd_lowU hb⟩
theorem den_ne (r : Rat) : (r.den : Int) ≠ 0 := by have := r.den_pos; omega
theorem add_num (r s : Rat) : Rat.divInt (r.num * s.den + s.num * r.den) (r.den * s.den) = r + s := by
  conv => rhs; rw [← Rat.num_divInt_den r, ← Rat.num_divInt_den s]
  rw [Rat.divInt_add_divInt _ _ (den_ne r) (den_ne s)]
theorem sub_num (r s : Rat) : Rat.divInt (r.num * s.den + -(s.num * r.den)) (r.den * s.den) = r - s := by
  conv => rhs; rw [Rat.sub_eq_add_neg, ← Rat.num_divInt_den r, ← Rat.num_divInt_den s, Rat.neg_divInt]
  rw [Rat.divInt_add_divInt _ _ (den_ne r) (den_ne s), Int.neg_mul]
theorem mul_num (r s : Rat) : Rat.divInt (r.num * s.num) (r.den * s.den) = r * s := by
  conv => rhs; rw [← Rat.num_divInt_den r, ← Rat.num_divInt_den s]
  rw [Rat.divInt_mul_divInt]
theorem div_num (r s : Rat) : Rat.divInt (r.num * s.den) (r.den * s.num) = r / s := by
  conv => rhs; rw [Rat.div_def, ← Rat.num_divInt_den r, ← Rat.num_divInt_den s, Rat.inv_divInt]
  rw [Rat.divInt_mul_divInt]
section
variable {k : Nat} {r s : Rat}
theorem dd_ne : (r.den : Int) * s.den ≠ 0 := Int.mul_ne_zero (den_ne r) (den_ne s)
theorem Sz.add (hr : Sz k r) (hs : Sz k s) : Sz (2 * k + 1) (r + s) := by
  rw [← add_num]
  refine .div dd_ne ?_ ((hr.2.mul hs.2).mono (by omega))
  have := (hr.1.mul hs.2).add (hs.1.mul hr.2)
  exact this.mono (by omega)
theorem Sz.sub (hr : Sz k r) (hs : Sz k s) : Sz (2 * k + 1) (r - s) := by
  rw [← sub_num]
  refine .div dd_ne ?_ ((hr.2.mul hs.2).mono (by omega))
  have := (hr.1.mul hs.2).add (hs.1.mul hr.2).neg
  exact this.mono (by omega)
theorem Sz.mul (hr : Sz k r) (hs : Sz k s) : Sz (2 * k + 1) (r * s) := by
  rw [← mul_num]
  exact .div dd_ne ((hr.1.mul hs.1).mono (by omega)) ((hr.2.mul hs.2).mono (by omega))
theorem num_ne (h : s ≠ 0) : s.num ≠ 0 := fun e => h (Rat.num_eq_zero.mp e)
theorem Sz.quot (hr : Sz k r) (hs : Sz k s) (h : s ≠ 0) : Sz (2 * k + 1) (r / s) := by
  rw [← div_num]
  exact .div (Int.mul_ne_zero (den_ne r) (num_ne h)) ((hr.1.mul hs.2).mono (by omega)) ((hr.2.mul hs.1).mono (by omega))
end
/-- lowest, as it is told for ints of less than K bits -/
def LowF (K : Nat) (f : FM) : Prop := ∀ (a b : Int) (g : Gh), b ≠ 0 → Bd K a → Bd K b → f [.int a, .int b] g = .ok (dR (Rat.divInt a b)) g
theorem lowF_of {K : Nat} {f : FM} (k0 : 0 < K) (k8 : K ≤ 8000) (hf : ∀ (a b : Int) (g : Gh), Bd K a → Bd K b → f [.int a, .int b] g = .ok (.int (Int.gcd a b)) g) : LowF K (mFun 2 3 (B_lowest f)) := fun a b g h ha hb => by
  rw [lowest_spec k0 k8 (hf a b g ha hb) h hb, low_rat h]
theorem lawLow {K : Nat} (k0 : 0 < K) (k8 : K ≤ 8000) : LowF K (mFun 2 5 B_law_lowest) := fun a b g h ha hb => by
  rw [law_lowest_spec k0 k8 h hb, low_rat h]
noncomputable def B_plus (f : FM) : MS := sRet (eCall f 2 0 [0, 1] [] (lCons (eBin .Add (eBin .Mult (eSub (eLv 0) (eC (.int 0))) (eSub (eLv 1) (eC (.int 1)))) (eBin .Mult (eSub (eLv 1) (eC (.int 0))) (eSub (eLv 0) (eC (.int 1))))) (lCons (eBin .Mult (eSub (eLv 0) (eC (.int 1))) (eSub (eLv 1) (eC (.int 1)))) (lNil))) (lNil))
noncomputable def B_minus (f : FM) : MS := sRet (eCall f 2 0 [0, 1] [] (lCons (eLv 0) (lCons (eTup (lCons (eNeg (eSub (eLv 1) (eC (.int 0)))) (lCons (eSub (eLv 1) (eC (.int 1))) (lNil)))) (lNil))) (lNil))
noncomputable def B_times (f : FM) : MS := sRet (eCall f 2 0 [0, 1] [] (lCons (eBin .Mult (eSub (eLv 0) (eC (.int 0))) (eSub (eLv 1) (eC (.int 0)))) (lCons (eBin .Mult (eSub (eLv 0) (eC (.int 1))) (eSub (eLv 1) (eC (.int 1)))) (lNil))) (lNil))
noncomputable def B_over (f : FM) : MS := sRet (eIf (tV (eCmp .Eq (eSub (eLv 1) (eC (.int 0))) (eC (.int 0)))) (eC .non) (eCall f 2 0 [0, 1] [] (lCons (eBin .Mult (eSub (eLv 0) (eC (.int 0))) (eSub (eLv 1) (eC (.int 1)))) (lCons (eBin .Mult (eSub (eLv 0) (eC (.int 1))) (eSub (eLv 1) (eC (.int 0)))) (lNil))) (lNil)))
noncomputable def B_worked (F : Nat → FM) (ok : Nat → Bool) (t : Str → Option D) : MS := sSeq (sIf (tV (eCmp .Eq (eLv 0) (eC (.str "else")))) (sRet (eIf (tV (eCmp .Is (eLv 1) (eC .non))) (eLv 2) (eLv 1))) (sSkip)) (sSeq (sIf (tOr (tV (eCmp .Is (eLv 1) (eC .non))) (tV (eCmp .Is (eLv 2) (eC .non)))) (sRet (eC .non)) (sSkip)) (sSeq (sSet 3 (eTab t (eLv 0))) (sRet (eCallV F ok 2 3 (lCons (eLv 1) (lCons (eLv 2) (lNil)))))))
noncomputable def B_number (tk lw : FM) : MS := sSeq (sSet 1 (eCall tk 2 0 [0, 1] [] (lCons (eLv 0) (lCons (eC (.int 7)) (lNil))) (lNil))) (sSeq (sIf (tV (eCmp .Eq (eLv 1) (eC (.int 0)))) (sRet (eC .non)) (sSkip)) (sSeq (sIf (tV (eCmp .Lt (eLv 1) (eC (.int 4)))) (sRet (eCall lw 2 0 [0, 1] [] (lCons (eBin .Sub (eCall tk 2 0 [0, 1] [] (lCons (eLv 0) (lCons (eC (.int 13)) (lNil))) (lNil)) (eC (.int 6))) (lCons (eBin .Add (eC (.int 1)) (eCall tk 2 0 [0, 1] [] (lCons (eLv 0) (lCons (eC (.int 6)) (lNil))) (lNil))) (lNil))) (lNil))) (sSkip)) (sSeq (sSet 2 (eSub (eNew (fLst (lCons (eC (.int 10)) (lCons (eC (.int 1000)) (lCons (eBin .Pow (eC (.int 10)) (eC (.int 6))) (lCons (eBin .Pow (eC (.int 10)) (eC (.int 11))) (lNil))))))) (eCall tk 2 0 [0, 1] [] (lCons (eLv 0) (lCons (eC (.int 4)) (lNil))) (lNil)))) (sRet (eCall lw 2 0 [0, 1] [] (lCons (eBin .Add (eBin .Sub (eCall tk 2 0 [0, 1] [] (lCons (eLv 0) (lCons (eBin .Sub (eBin .Mult (eC (.int 2)) (eLv 2)) (eC (.int 1))) (lNil))) (lNil)) (eLv 2)) (eC (.int 1))) (lCons (eBin .Add (eC (.int 1)) (eCall tk 2 0 [0, 1] [] (lCons (eLv 0) (lCons (eBin .Sub (eLv 2) (eC (.int 1))) (lNil))) (lNil))) (lNil))) (lNil))))))
section
variable {K k : Nat} {f : FM} {r s : Rat} {g : Gh}
theorem mm {a b : Int} (k0 : 0 < k) (hk : k ≤ 8000) (ha : Bd k a) (hb : Bd k b) : mulOk a b = true := mulOk_bd ha hb k0 k0 (by omega)
theorem plus_spec (hf : LowF K f) (k0 : 0 < k) (hK : 2 * k + 1 ≤ K) (k8 : K ≤ 8000) (hr : Sz k r) (hs : Sz k s) : mFun 2 2 (B_plus f) [dR r, dR s] g = .ok (dR (r + s)) g := by
  have m := fun {a b : Int} => mm (a := a) (b := b) k0 (by omega)
  have b1 : Bd K (r.num * s.den + s.num * r.den) := ((hr.1.mul hs.2).add (hs.1.mul hr.2)).mono (by omega)
  have e := hf _ _ g dd_ne b1 ((hr.2.mul hs.2).mono (by omega))
  rw [add_num] at e
  simp [dR, mFun, B_plus, permL, a20, a21, m hr.1 hs.2, m hs.1 hr.2, m hr.2 hs.2, endR] at e ⊢
  rw [e]; rfl
theorem minus_spec (hf : LowF K f) (k0 : 0 < k) (hK : 2 * k + 1 ≤ K) (k8 : K ≤ 8000) (hr : Sz k r) (hs : Sz k s) : mFun 2 2 (B_minus (mFun 2 2 (B_plus f))) [dR r, dR s] g = .ok (dR (r - s)) g := by
  have hn : dR (-s) = .tup [.int (-s.num), .int s.den] := rfl
  have hs' : Sz k (-s) := ⟨by show Bd k (-s.num); exact hs.1.neg, hs.2⟩
  have e := plus_spec (g := g) hf k0 hK k8 hr hs'
  rw [hn] at e
  rw [Rat.sub_eq_add_neg]
  simp only [dR] at e ⊢
  generalize mFun 2 2 (B_plus f) = p at *
  simp [mFun, B_minus, permL, a20, a21, lim2, endR, e]
theorem times_spec (hf : LowF K f) (k0 : 0 < k) (hK : 2 * k + 1 ≤ K) (k8 : K ≤ 8000) (hr : Sz k r) (hs : Sz k s) : mFun 2 2 (B_times f) [dR r, dR s] g = .ok (dR (r * s)) g := by
  have m := fun {a b : Int} => mm (a := a) (b := b) k0 (by omega)
  have e := hf _ _ g dd_ne ((hr.1.mul hs.1).mono (by omega)) ((hr.2.mul hs.2).mono (by omega))
  rw [mul_num] at e
  simp [dR, mFun, B_times, permL, a20, a21, m hr.1 hs.1, m hr.2 hs.2, endR] at e ⊢
  rw [e]; rfl
theorem over_spec (hf : LowF K f) (k0 : 0 < k) (hK : 2 * k + 1 ≤ K) (k8 : K ≤ 8000) (hr : Sz k r) (hs : Sz k s) : mFun 2 2 (B_over f) [dR r, dR s] g = .ok (if s = 0 then .non else dR (r / s)) g := by
  by_cases h : s = 0
  · subst h
    simp [dR, mFun, B_over, a20, endR]
  · have hn := num_ne h
    have m := fun {a b : Int} => mm (a := a) (b := b) k0 (by omega)
    have e := hf _ _ g (Int.mul_ne_zero (den_ne r) hn) ((hr.1.mul hs.2).mono (by omega)) ((hr.2.mul hs.1).mono (by omega))
    rw [div_num] at e
    rw [if_neg h]
    simp [dR, mFun, B_over, permL, a20, a21, hn, m hr.1 hs.2, m hr.2 hs.1, endR] at e ⊢
    rw [e]; rfl
end
/-- a number that may lack -/
def dN : Option Rat → D
  | none => .non
  | some r => dR r
def SzN (k : Nat) (x : Option Rat) : Prop := ∀ r, x = some r → Sz k r
theorem SzN.mono {k l : Nat} {x : Option Rat} (h : SzN k x) (hl : k ≤ l) : SzN l x := fun r e => (h r e).mono hl
theorem szN_none {k : Nat} : SzN k none := fun _ e => nomatch e
theorem szN_some {k : Nat} {r : Rat} (h : Sz k r) : SzN k (some r) := fun _ e => Option.some.inj e ▸ h
theorem dN_ok (x : Option Rat) : okD (dN x) 64 = true := by cases x <;> rfl
theorem dN_rpr {k : Nat} {x : Option Rat} (h : SzN k x) (h0 : 0 < k) (h1 : k ≤ 1900) : rprOk (dN x) = true := by
  refine rpr_ok k 4000 h0 (by omega) (dN_ok x) ?_ ?_ (by decide)
  · cases x with
    | none => rfl
    | some r =>
      have := h r rfl
      simp only [dN, dR, bdD, bdDs, Bool.and_true, Bool.and_eq_true, decide_eq_true_eq]
      exact ⟨this.1, this.2⟩
  · cases x with
    | none => exact (by decide : 5 ≤ 4000)
    | some r => simp only [dN, dR, wtD, wtDs]; omega
@[simp] theorem eqD_dR {r s : Rat} : eqD (dR r) (dR s) = decide (r = s) := by
  simp only [dR, eqD, eqDs, Bool.and_true]
  by_cases h : r = s
  · subst h; simp
  · rw [decide_eq_false h]
    cases hh : ((r.num == s.num) && ((r.den : Int) == (s.den : Int)))
    · rfl
    · simp only [Bool.and_eq_true, beq_iff_eq] at hh
      exact absurd (Rat.ext hh.1 (by omega)) h
theorem eqD_dN {x y : Option Rat} : eqD (dN x) (dN y) = decide (x = y) := by
  cases x <;> cases y
  · rfl
  · rfl
  · rfl
  · simp [dN]
theorem okE_ok {d e : D} (h1 : okD d 64 = true) (h2 : okD e 64 = true) : okE d e = true := by
  unfold okE; rw [h1, h2]; simp
@[simp] theorem eqN_ap {x y : Option Rat} {g : Gh} : cmpop .Eq (dN x) (dN y) g = .ok (.bl (decide (x = y))) g := by
  rw [eq_ap, okD_deref (dN_ok x), okD_deref (dN_ok y), okE_ok (dN_ok x) (dN_ok y), eqD_dN]; rfl
@[simp] theorem neN_ap {x y : Option Rat} {g : Gh} : cmpop .NotEq (dN x) (dN y) g = .ok (.bl (!decide (x = y))) g := by
  rw [ne_ap, okD_deref (dN_ok x), okD_deref (dN_ok y), okE_ok (dN_ok x) (dN_ok y), eqD_dN]; rfl
@[simp] theorem neNn_ap {x : Option Rat} {g : Gh} : cmpop .NotEq (dN x) .non g = .ok (.bl (!decide (x = none))) g := neN_ap (y := none)
@[simp] theorem eqNn_ap {x : Option Rat} {g : Gh} : cmpop .Eq (dN x) .non g = .ok (.bl (decide (x = none))) g := eqN_ap (y := none)
@[simp] theorem deref_dN {x : Option Rat} {g : Gh} : deref g (dN x) = dN x := okD_deref (dN_ok x)
@[simp] theorem deref_dR {r : Rat} {g : Gh} : deref g (dR r) = dR r := rfl
@[simp] theorem sub_dR0 {r : Rat} {g : Gh} : subD (dR r) (.int 0) g = .ok (.int r.num) g := rfl
@[simp] theorem sub_dR1 {r : Rat} {g : Gh} : subD (dR r) (.int 1) g = .ok (.int r.den) g := rfl
@[simp] theorem sub_dN0 {r : Rat} {g : Gh} : subD (dN (some r)) (.int 0) g = .ok (.int r.num) g := rfl
@[simp] theorem sub_dN1 {r : Rat} {g : Gh} : subD (dN (some r)) (.int 1) g = .ok (.int r.den) g := rfl
@[simp] theorem isNon_dN {x : Option Rat} : isNon (dN x) = decide (x = none) := by cases x <;> rfl
@[simp] theorem isNon_dR {r : Rat} : isNon (dR r) = false := rfl
/-- what worked answers -/
def wkR (w : Str) (x y : Option Rat) : Option Rat :=
  if w = "else" then (match x with | none => y | some r => some r)
  else match x, y with
    | some r, some s => if w = "plus" then some (r + s) else if w = "minus" then some (r - s) else if w = "times" then some (r * s) else if s = 0 then none else some (r / s)
    | _, _ => none
def WORDS : List Str := ["plus", "minus", "times", "over", "else"]
section
variable {x y : Option Rat} {r s : Rat}
theorem wk_else : wkR "else" x y = match x with | none => y | some r => some r := by unfold wkR; rw [if_pos rfl]
theorem wk_none_l {w : Str} (h : w ≠ "else") : wkR w none y = none := by unfold wkR; rw [if_neg h]
theorem wk_none_r {w : Str} (h : w ≠ "else") : wkR w x none = none := by unfold wkR; rw [if_neg h]; cases x <;> rfl
theorem wk_plus : wkR "plus" (some r) (some s) = some (r + s) := by unfold wkR; rw [if_neg (by decide +kernel)]; simp
theorem wk_minus : wkR "minus" (some r) (some s) = some (r - s) := by
  unfold wkR; rw [if_neg (by decide +kernel)]; simp only; rw [if_neg (by decide +kernel), if_pos trivial]
theorem wk_times : wkR "times" (some r) (some s) = some (r * s) := by
  unfold wkR; rw [if_neg (by decide +kernel)]; simp only; rw [if_neg (by decide +kernel), if_neg (by decide +kernel), if_pos trivial]
theorem wk_over : wkR "over" (some r) (some s) = if s = 0 then none else some (r / s) := by
  unfold wkR; rw [if_neg (by decide +kernel)]; simp only; rw [if_neg (by decide +kernel), if_neg (by decide +kernel), if_neg (by decide +kernel)]
theorem wk_sz {k : Nat} {w : Str} (hx : SzN k x) (hy : SzN k y) : SzN (2 * k + 1) (wkR w x y) := by
  unfold wkR
  split
  · cases x
    · exact hy.mono (by omega)
    · exact hx.mono (by omega)
  · cases x with
    | none => exact szN_none
    | some r => cases y with
      | none => exact szN_none
      | some s =>
        have hr := hx r rfl
        have hs := hy s rfl
        simp only
        split
        · exact szN_some (hr.add hs)
        split
        · exact szN_some (hr.sub hs)
        split
        · exact szN_some (hr.mul hs)
        split
        · exact szN_none
        · rename_i h; exact szN_some (hr.quot hs h)
end
/-- the four works as they stand in a law's table -/
structure Works (K : Nat) (F : Nat → FM) (ok : Nat → Bool) (t : Str → Option D) (ip im it io : Nat) : Prop where
  tp : t "plus" = some (.fn ip)
  tm : t "minus" = some (.fn im)
  tt : t "times" = some (.fn it)
  to : t "over" = some (.fn io)
  kp : ok ip = true
  km : ok im = true
  kt : ok it = true
  ko : ok io = true
  fp : ∃ f, LowF K f ∧ F ip = mFun 2 2 (B_plus f)
  fm : ∃ f, LowF K f ∧ F im = mFun 2 2 (B_minus (mFun 2 2 (B_plus f)))
  ft : ∃ f, LowF K f ∧ F it = mFun 2 2 (B_times f)
  fo : ∃ f, LowF K f ∧ F io = mFun 2 2 (B_over f)
theorem worked_spec {K k : Nat} {F : Nat → FM} {ok : Nat → Bool} {t : Str → Option D} {ip im it io : Nat} (W : Works K F ok t ip im it io) (k0 : 0 < k) (hK : 2 * k + 1 ≤ K) (k8 : K ≤ 8000) {w : Str} (hw : w ∈ WORDS) {x y : Option Rat} (hx : SzN k x) (hy : SzN k y) {g : Gh} :
    mFun 3 4 (B_worked F ok t) [.str w, dN x, dN y] g = .ok (dN (wkR w x y)) g := by
  by_cases he : w = "else"
  · subst he
    rw [wk_else]
    cases x with
    | none => simp [dN, mFun, B_worked, endR]
    | some r => simp [dN, dR, mFun, B_worked, endR]
  have hne : ∀ {g : Gh}, cmpop .Eq (.str w) (.str "else") g = .ok (.bl false) g := fun {g} => eqS_no (by simpa using he)
  cases x with
  | none => rw [wk_none_l he]; simp [dN, mFun, B_worked, endR, hne]
  | some r => cases y with
    | none => rw [wk_none_r he]; simp [dN, dR, mFun, B_worked, endR, hne]
    | some s =>
      have hr := hx r rfl
      have hs := hy s rfl
      simp only [dN]
      have key : ∀ (i : Nat) (d : D), t w = some (.fn i) → ok i = true → F i [dR r, dR s] g = .ok d g → mFun 3 4 (B_worked F ok t) [.str w, dR r, dR s] g = .ok d g := fun i d h1 h2 h3 => by
        simp only [dR] at h3 ⊢
        simp [mFun, B_worked, endR, hne, h1, h2, h3]
      simp only [WORDS, List.mem_cons, List.not_mem_nil, or_false] at hw
      rcases hw with rfl | rfl | rfl | rfl | rfl
      · obtain ⟨f, hf, e⟩ := W.fp
        rw [wk_plus]
        exact key _ _ W.tp W.kp (by rw [e]; exact plus_spec hf k0 hK k8 hr hs)
      · obtain ⟨f, hf, e⟩ := W.fm
        rw [wk_minus]
        exact key _ _ W.tm W.km (by rw [e]; exact minus_spec hf k0 hK k8 hr hs)
      · obtain ⟨f, hf, e⟩ := W.ft
        rw [wk_times]
        exact key _ _ W.tt W.kt (by rw [e]; exact times_spec hf k0 hK k8 hr hs)
      · obtain ⟨f, hf, e⟩ := W.fo
        rw [wk_over]
        refine key _ _ W.to W.ko ?_
        rw [e, over_spec hf k0 hK k8 hr hs]
        split <;> rfl
      · exact absurd rfl he
/-- a draw, as it is told -/
def TakeF (f : FM) : Prop := ∀ (n : Nat) (g : Gh) (m : Int), HasBag n g → 0 < m → Bd 64 m → ∃ r g', (0 ≤ r ∧ r < m) ∧ (HasBag n g' ∧ g'.length = g.length ∧ ∀ j, j ≠ n → g'[j]? = g[j]?) ∧ f [.loc n, .int m] g = .ok (.int r) g'
theorem takeF : TakeF (mFun 2 3 B_take) := fun n g m hb h0 h1 => take_spec hb h0 h1
theorem number_spec {tk lw : FM} (ht : TakeF tk) {K : Nat} (hl : LowF K lw) (hK : 40 ≤ K) {n : Nat} {g : Gh} (hb : HasBag n g) : ∃ x g', SzN 40 x ∧ HasBag n g' ∧ mFun 1 3 (B_number tk lw) [.loc n] g = .ok (dN x) g' := by
  obtain ⟨r1, g1, hr1, ⟨hb1, _⟩, e1⟩ := ht n g 7 hb (by decide) (by decide)
  have p6 : powOk 10 6 = true := powOk_bd (by decide) (by decide) (by decide)
  have p11 : powOk 10 11 = true := powOk_bd (by decide) (by decide) (by decide)
  by_cases h0 : r1 = 0
  · refine ⟨none, g1, szN_none, hb1, ?_⟩
    simp [dN, mFun, B_number, permL, e1, h0, endR]
  by_cases h4 : r1 < 4
  · obtain ⟨r2, g2, hr2, ⟨hb2, _⟩, e2⟩ := ht n g1 13 hb1 (by decide) (by decide)
    obtain ⟨r3, g3, hr3, ⟨hb3, _⟩, e3⟩ := ht n g2 6 hb2 (by decide) (by decide)
    have ba : Bd 40 (r2 - 6) := bd_of (by omega)
    have bb : Bd 40 (1 + r3) := bd_of (by omega)
    have e4 := hl (r2 - 6) (1 + r3) g3 (by omega) (ba.mono hK) (bb.mono hK)
    refine ⟨some (Rat.divInt (r2 - 6) (1 + r3)), g3, szN_some (.div (by omega) ba bb), hb3, ?_⟩
    simp [dN, mFun, B_number, permL, e1, h0, h4, e2, e3, e4, endR]
  obtain ⟨r2, g2, hr2, ⟨hb2, _⟩, e2⟩ := ht n g1 4 hb1 (by decide) (by decide)
  obtain ⟨far, hf0, hf1, hfar⟩ : ∃ far : Int, 10 ≤ far ∧ far ≤ 100000000000 ∧ atI [D.int 10, .int 1000, .int 1000000, .int 100000000000] r2 = some (.int far) := by
    have : r2 = 0 ∨ r2 = 1 ∨ r2 = 2 ∨ r2 = 3 := by omega
    rcases this with rfl | rfl | rfl | rfl <;> exact ⟨_, by decide, by decide, rfl⟩
  obtain ⟨r3, g3, hr3, ⟨hb3, _⟩, e3⟩ := ht n g2 (2 * far - 1) hb2 (by omega) (bd_of (by omega))
  obtain ⟨r4, g4, hr4, ⟨hb4, _⟩, e4⟩ := ht n g3 (far - 1) hb3 (by omega) (bd_of (by omega))
  have ba : Bd 40 (r3 - far + 1) := bd_of (by omega)
  have bb : Bd 40 (1 + r4) := bd_of (by omega)
  have e5 := hl (r3 - far + 1) (1 + r4) g4 (by omega) (ba.mono hK) (bb.mono hK)
  have m2 : mulOk 2 far = true := mulOk_left (by decide)
  refine ⟨some (Rat.divInt (r3 - far + 1) (1 + r4)), g4, szN_some (.div (by omega) ba bb), hb4, ?_⟩
  simp [dN, mFun, B_number, permL, e1, h0, h4, e2, lim4, p6, p11, hfar, e3, e4, e5, m2, endR]
end GL
/-! GL part 20: helpers for loops and comprehensions that check. -/
namespace GL
open PySem L2
theorem set_same {env : Env'} {i : Nat} (hi : i < env.length) : ∃ s, env = env.set i s := ⟨env[i], by simp⟩
/-- a loop whose turns check and change nothing -/
theorem forL_chk {b : MS} {i : Nat} {g : Gh} : ∀ {ds : List D} {env : Env'}, i < env.length → (∀ d ∈ ds, b (env.set i (.val d)) g = .nx (env.set i (.val d)) g) → ∃ s, forL none (gNm i) b ds env g = .nx (env.set i s) g
  | [], env, hi, _ => by
    obtain ⟨s, hs⟩ := set_same hi
    refine ⟨s, ?_⟩
    rw [forL_nil, ← hs]
  | d :: ds, env, hi, h => by
    have e := h d List.mem_cons_self
    obtain ⟨s, e2⟩ := forL_chk (b := b) (i := i) (g := g) (ds := ds) (env := env.set i (.val d)) (by simpa using hi) (fun d' hd => by
      rw [List.set_set]; exact h d' (List.mem_cons_of_mem _ hd))
    refine ⟨s, ?_⟩
    rw [forL_cons]
    simp only [gNm_ap, e]
    rw [e2, List.set_set]
theorem compL_true {e : ME} {i : Nat} {env : Env'} {g : Gh} {ds : List D} (h : ∀ d ∈ ds, e (env.set i (.val d)) g = .ok (.bl true) g) : compL none (gNm i) tTrue e ds env g = .ok (ds.map fun _ => .bl true) g := by
  have := compL_map (tg := gNm i) (t := tTrue) (e := e) (env := env) (g := g) (fun _ => true) (fun _ => .bl true) ds (fun d hd => ⟨_, rfl, rfl, fun _ => h d hd⟩)
  rw [this]
  have : ds.filter (fun _ => true) = ds := by simp
  rw [this]
/-- all([check for x in it]) -/
theorem all_comp {it : MI} {i : Nat} {e : ME} {env : Env'} {g : Gh} {ds : List D} (hit : it env g = .ok (ds, none) g) (hl : ds.length ≤ LIM) (h : ∀ d ∈ ds, e ((blkE env [i]).set i (.val d)) g = .ok (.bl true) g) :
    eBi oAll (lCons (eNew (lComp it (gNm i) tTrue e [i])) lNil) env g = .ok (.bl true) g := by
  simp only [eBi_ap, lCons_ap, eNew_ap, lComp_ap, lNil_ap, hit, R.bind_ok, compL_true h]
  have hl' : (ds.map fun _ => D.bl true).length ≤ LIM := by simpa using hl
  simp only [hl', if_true, R.bind_ok]
  exact all_true (by simp)
/-- if not all(..): return False, passed -/
theorem chk_all {it : MI} {i : Nat} {e : ME} {env : Env'} {g : Gh} {ds : List D} (hit : it env g = .ok (ds, none) g) (hl : ds.length ≤ LIM) (h : ∀ d ∈ ds, e ((blkE env [i]).set i (.val d)) g = .ok (.bl true) g) :
    sIf (tNot (tV (eBi oAll (lCons (eNew (lComp it (gNm i) tTrue e [i])) lNil)))) (sRet (eC (.bl false))) sSkip env g = .nx env g := by
  have := all_comp hit hl h
  simp only [sIf_ap, tNot_ap, tV_ap, this, R.bind_ok, asB_bl]
  rfl
/-- what a law's outer loop leaves: the script stands -/
def Fst (x : Sl) (n : Nat) (env : Env') : Prop := ∃ l, env = x :: l ∧ l.length = n
/-- the draws of the numbers -/
theorem comp_num {it : MI} {i : Nat} {e : ME} {env : Env'} {g : Gh} {n : Nat} {ds : List D} (hb : HasBag n g) (hit : it env g = .ok (ds, none) g) (hl : ds.length ≤ LIM) (I : Option Rat → Prop)
    (h : ∀ d ∈ ds, ∀ g, HasBag n g → ∃ x g', I x ∧ HasBag n g' ∧ e ((blkE env [i]).set i (.val d)) g = .ok (dN x) g') :
    ∃ (xs : List (Option Rat)) (g' : Gh), xs.length = ds.length ∧ (∀ x ∈ xs, I x) ∧ HasBag n g' ∧ eNew (lComp it (gNm i) tTrue e [i]) env g = .ok (.lst (xs.map dN)) g' := by
  have key : ∀ ds : List D, (∀ d ∈ ds, ∀ g, HasBag n g → ∃ x g', I x ∧ HasBag n g' ∧ e ((blkE env [i]).set i (.val d)) g = .ok (dN x) g') → ∀ g, HasBag n g → ∃ (xs : List (Option Rat)) (g' : Gh), xs.length = ds.length ∧ (∀ x ∈ xs, I x) ∧ HasBag n g' ∧ compL none (gNm i) tTrue e ds (blkE env [i]) g = .ok (xs.map dN) g' := fun ds => by
    induction ds with
    | nil => exact fun _ g hg => ⟨[], g, rfl, (fun _ q => nomatch q), hg, compL_nil⟩
    | cons d ds ih =>
      intro h g hg
      obtain ⟨x, g1, hx, hg1, e1⟩ := h d List.mem_cons_self g hg
      obtain ⟨xs, g2, l, hxs, hg2, e2⟩ := ih (fun d hd => h d (List.mem_cons_of_mem _ hd)) g1 hg1
      refine ⟨x :: xs, g2, by simp [l], ?_, hg2, ?_⟩
      · intro z hz
        rcases List.mem_cons.mp hz with rfl | hz
        · exact hx
        · exact hxs z hz
      · rw [compL_cons]
        simp only [gNm_ap, tTrue_ap, if_true, e1, e2, List.map_cons]
  obtain ⟨xs, g', l, hxs, hg', e'⟩ := key ds h g hb
  refine ⟨xs, g', l, hxs, hg', ?_⟩
  have hl' : (xs.map dN).length ≤ LIM := by rw [List.length_map, l]; exact hl
  simp only [eNew_ap, lComp_ap, hit, R.bind_ok, e', hl', if_true]
/-- draws of whatever kind -/
theorem comp_ex {α : Type} (enc : α → D) {it : MI} {i : Nat} {e : ME} {env : Env'} {g : Gh} {n : Nat} {ds : List D} (hb : HasBag n g) (hit : it env g = .ok (ds, none) g) (hl : ds.length ≤ LIM) (I : α → Prop)
    (h : ∀ d ∈ ds, ∀ g, HasBag n g → ∃ x g', I x ∧ HasBag n g' ∧ e ((blkE env [i]).set i (.val d)) g = .ok (enc x) g') :
    ∃ (xs : List α) (g' : Gh), xs.length = ds.length ∧ (∀ x ∈ xs, I x) ∧ HasBag n g' ∧ eNew (lComp it (gNm i) tTrue e [i]) env g = .ok (.lst (xs.map enc)) g' := by
  have key : ∀ ds : List D, (∀ d ∈ ds, ∀ g, HasBag n g → ∃ x g', I x ∧ HasBag n g' ∧ e ((blkE env [i]).set i (.val d)) g = .ok (enc x) g') → ∀ g, HasBag n g → ∃ (xs : List α) (g' : Gh), xs.length = ds.length ∧ (∀ x ∈ xs, I x) ∧ HasBag n g' ∧ compL none (gNm i) tTrue e ds (blkE env [i]) g = .ok (xs.map enc) g' := fun ds => by
    induction ds with
    | nil => exact fun _ g hg => ⟨[], g, rfl, (fun _ q => nomatch q), hg, compL_nil⟩
    | cons d ds ih =>
      intro h g hg
      obtain ⟨x, g1, hx, hg1, e1⟩ := h d List.mem_cons_self g hg
      obtain ⟨xs, g2, l, hxs, hg2, e2⟩ := ih (fun d hd => h d (List.mem_cons_of_mem _ hd)) g1 hg1
      refine ⟨x :: xs, g2, by simp [l], ?_, hg2, ?_⟩
      · intro z hz
        rcases List.mem_cons.mp hz with rfl | hz
        · exact hx
        · exact hxs z hz
      · rw [compL_cons]
        simp only [gNm_ap, tTrue_ap, if_true, e1, e2, List.map_cons]
  obtain ⟨xs, g', l, hxs, hg', e'⟩ := key ds h g hb
  refine ⟨xs, g', l, hxs, hg', ?_⟩
  have hl' : (xs.map enc).length ≤ LIM := by rw [List.length_map, l]; exact hl
  simp only [eNew_ap, lComp_ap, hit, R.bind_ok, e', hl', if_true]
end GL
/-! GL part 21: tables of rows and trees. -/
namespace GL
open PySem L2
noncomputable def P_b_held : MS := sSeq (sPar 2 3 (lCons (eBin .Mult (eSub (eLv 0) (eC (.int 0))) (eSub (eLv 1) (eC (.int 1)))) (lCons (eBin .Mult (eSub (eLv 1) (eC (.int 0))) (eSub (eLv 0) (eC (.int 1)))) (lNil)))) (sRet (eIf (tV (eCmp .Lt (eLv 2) (eLv 3))) (eNeg (eC (.int 1))) (eBi oInt (lCons (eCmp .Gt (eLv 2) (eLv 3)) (lNil)))))
noncomputable def P_b_is_yes (c_held : FM) : MS := sRet (eAnd (eCmp .IsNot (eSub (eLv 0) (eLv 1)) (eC .non)) (eCmp .LtE (eCall c_held 2 0 [0, 1] [] (lCons (eSub (eLv 0) (eLv 1)) (lCons (eLv 2) (lNil))) (lNil)) (eC (.int 0))))
noncomputable def P_ce_rows_parted_1 : ME := eLv 4
noncomputable def P_ct_rows_parted_2 (c_is_yes : FM) : MT := tV (eCall c_is_yes 3 0 [0, 1, 2] [] (lCons (eSub (eLv 4) (eC (.int 0))) (lCons (eLv 1) (lCons (eLv 2) (lNil)))) (lNil))
noncomputable def P_ce_rows_parted_3 : ME := eLv 4
noncomputable def P_ct_rows_parted_4 (c_is_yes : FM) : MT := tNot (tV (eCall c_is_yes 3 0 [0, 1, 2] [] (lCons (eSub (eLv 4) (eC (.int 0))) (lCons (eLv 1) (lCons (eLv 2) (lNil)))) (lNil)))
noncomputable def P_b_rows_parted (c_is_yes : FM) : MS := sSeq (sSet 3 (eNew (lComp (iV (eLv 0)) (gNm 4) (P_ct_rows_parted_2 c_is_yes) (P_ce_rows_parted_1) [4]))) (sRet (eTup (lCons (eLv 3) (lCons (eNew (lComp (iV (eLv 0)) (gNm 4) (P_ct_rows_parted_4 c_is_yes) (P_ce_rows_parted_3) [4])) (lNil)))))
noncomputable def P_ce_labels_of_1 : ME := eLv 2
noncomputable def P_b_labels_of : MS := sRet (eNew (lComp (iV (eLv 0)) (gTp 2 (gsCons (gNm 1) (gsCons (gNm 2) (gsNil)))) (tTrue) (P_ce_labels_of_1) [1, 2]))
noncomputable def P_ce_spread_of_1 : ME := eBin .Mult (eLv 2) (eLv 2)
noncomputable def P_b_spread_of (c_lowest : FM) : MS := sSeq (sIf (tV (eCmp .Eq (eBi oLen (lCons (eLv 0) (lNil))) (eC (.int 0)))) (sRet (eC (.tup [.int 0, .int 1]))) (sSkip)) (sSeq (sSet 1 (eBi oSum (lCons (eLv 0) (lNil)))) (sRet (eCall c_lowest 2 0 [0, 1] [] (lCons (eBin .Sub (eBin .Mult (eBi oLen (lCons (eLv 0) (lNil))) (eBi oSum (lCons (eNew (lComp (iV (eLv 0)) (gNm 2) (tTrue) (P_ce_spread_of_1) [2])) (lNil)))) (eBin .Mult (eLv 1) (eLv 1))) (lCons (eBi oLen (lCons (eLv 0) (lNil))) (lNil))) (lNil))))
noncomputable def P_b_leaf_of (c_lowest : FM) (c_labels_of : FM) : MS := sSeq (sSet 1 (eCall c_labels_of 1 0 [0] [] (lCons (eLv 0) (lNil)) (lNil))) (sRet (eTup (lCons (eC (.str "leaf")) (lCons (eCall c_lowest 2 0 [0, 1] [] (lCons (eBi oSum (lCons (eLv 1) (lNil))) (lCons (eBi oLen (lCons (eLv 1) (lNil))) (lNil))) (lNil)) (lNil)))))
noncomputable def P_ce_rising_numbers_1 : ME := eLv 3
noncomputable def P_ct_rising_numbers_2 (c_held : FM) : MT := tV (eCmp .Lt (eCall c_held 2 0 [0, 1] [] (lCons (eLv 3) (lCons (eLv 2) (lNil))) (lNil)) (eC (.int 0)))
noncomputable def P_lp_rising_numbers_3 (c_held : FM) : MS := sIf (tAnd (tV (eCmp .IsNot (eLv 2) (eC .non))) (tBor 1 (tV (eCmp .NotIn (eLv 2) (eLv 1))))) (sOwnIns 1 (eBor 1 (eBi oLen (lCons (eNew (lComp (iV (eLv 1)) (gNm 3) (P_ct_rising_numbers_2 c_held) (P_ce_rising_numbers_1) [3])) (lNil)))) (eLv 2)) (sSkip)
noncomputable def P_b_rising_numbers (c_held : FM) : MS := sSeq (sSetOwn 1 (fLst (lNil))) (sSeq (sFor (iV (eLv 0)) (gNm 2) (P_lp_rising_numbers_3 c_held)) (sFreeze 1 (sRet (eLv 1))))
/-! ### tools -/
theorem atI_nat {α : Type} {l : List α} {i : Nat} (h : i < l.length) : atI l (i : Int) = some l[i] := by
  unfold atI; rw [ixN_nat h]; simp [h]
theorem compL_mapT {α : Type} {tg : MG} {t : MT} {el : ME} {env : Env'} {g : Gh} (e : α → D) (p : α → Bool) (f : α → D) : ∀ (xs : List α), (∀ x ∈ xs, ∃ env1, tg (e x) env = some env1 ∧ t env1 g = .ok (p x) g ∧ (p x = true → el env1 g = .ok (f x) g)) →
    compL none tg t el (xs.map e) env g = .ok ((xs.filter p).map f) g
  | [], _ => compL_nil
  | x :: xs, h => by
    obtain ⟨env1, e1, e2, e3⟩ := h x List.mem_cons_self
    have ih := compL_mapT e p f xs fun d hd => h d (List.mem_cons_of_mem _ hd)
    rw [List.map_cons, compL_cons, e1]
    simp only [e2]
    cases hp : p x with
    | false => simp only [Bool.false_eq_true, if_false, List.filter_cons, hp]; exact ih
    | true => simp only [if_true, e3 hp, ih, List.filter_cons, hp, List.map_cons]
/-- a loop that folds -/
theorem forL_fold {α S : Type} {tg : MG} {b : MS} {g : Gh} (e : α → D) (f : S → α → S) (Rl : S → Env' → Prop) : ∀ (xs : List α) (s : S) (env : Env'), (∀ x ∈ xs, ∀ s env, Rl s env → ∃ env1, tg (e x) env = some env1 ∧ ∃ env2, b env1 g = .nx env2 g ∧ Rl (f s x) env2) → Rl s env →
    ∃ env', forL none tg b (xs.map e) env g = .nx env' g ∧ Rl (xs.foldl f s) env'
  | [], s, env, _, h => ⟨env, forL_nil, h⟩
  | x :: xs, s, env, hb, h => by
    obtain ⟨env1, e1, env2, e2, h2⟩ := hb x List.mem_cons_self s env h
    obtain ⟨env', e3, h3⟩ := forL_fold e f Rl xs (f s x) env2 (fun d hd => hb d (List.mem_cons_of_mem _ hd)) h2
    refine ⟨env', ?_, h3⟩
    rw [List.map_cons, forL_cons, e1]
    simp only [e2]
    exact e3
@[simp] theorem oSum_map (ls : List Int) (g : Gh) : oSum [.lst (ls.map D.int)] g = .ok (.int ls.sum) g := by
  simp [oSum, asInts_map]
theorem sum_bd {B : Nat} : ∀ {ls : List Int}, (∀ l ∈ ls, l.natAbs ≤ B) → ls.sum.natAbs ≤ ls.length * B
  | [], _ => by simp
  | l :: ls, h => by
    have h1 := h l List.mem_cons_self
    have h2 := sum_bd fun x hx => h x (List.mem_cons_of_mem _ hx)
    simp only [List.sum_cons, List.length_cons, Nat.add_mul, Nat.one_mul]
    omega
/-! ### ratios held together -/
def heldR (r s : Rat) : Int := if r < s then -1 else if s < r then 1 else 0
def HeldF (k : Nat) (f : FM) : Prop := ∀ (r s : Rat) (g : Gh), Sz k r → Sz k s → f [dR r, dR s] g = .ok (.int (heldR r s)) g
theorem held_spec {k : Nat} (k0 : 0 < k) (k8 : k ≤ 8000) : HeldF k (mFun 2 4 P_b_held) := fun r s g hr hs => by
  have m1 := mm k0 k8 hr.1 hs.2
  have m2 := mm k0 k8 hs.1 hr.2
  have e1 : (r.num * (s.den : Int) < s.num * (r.den : Int)) ↔ r < s := (Rat.lt_iff r s).symm
  have e2 : (s.num * (r.den : Int) < r.num * (s.den : Int)) ↔ s < r := (Rat.lt_iff s r).symm
  by_cases h1 : r < s
  · have h1' := e1.mpr h1
    simp [mFun, P_b_held, m1, m2, h1', endR, heldR, h1]
  · have h1' : ¬ (r.num * (s.den : Int) < s.num * (r.den : Int)) := fun q => h1 (e1.mp q)
    by_cases h2 : s < r
    · have h2' := e2.mpr h2
      simp [mFun, P_b_held, m1, m2, h1', h2', endR, heldR, h1, h2]
    · have h2' : ¬ (s.num * (r.den : Int) < r.num * (s.den : Int)) := fun q => h2 (e2.mp q)
      simp [mFun, P_b_held, m1, m2, h1', h2', endR, heldR, h1, h2]
theorem held_le {r s : Rat} : decide (heldR r s ≤ 0) = decide (r ≤ s) := by
  unfold heldR
  by_cases h1 : r < s
  · have : r ≤ s := Rat.le_of_lt h1
    simp [h1, this]
  · by_cases h2 : s < r
    · have : ¬ r ≤ s := Rat.not_le.mpr h2
      simp [h1, h2, this]
    · have : r ≤ s := Rat.not_lt.mp h2
      simp [h1, h2, this]
theorem held_lt {r s : Rat} : decide (heldR r s < 0) = decide (r < s) := by
  unfold heldR
  by_cases h1 : r < s
  · simp [h1]
  · by_cases h2 : s < r <;> simp [h1, h2]
theorem held_gt {r s : Rat} : decide (0 < heldR r s) = decide (s < r) := by
  unfold heldR
  by_cases h1 : r < s
  · have : ¬ s < r := fun h => by grind
    simp [h1, this]
  · by_cases h2 : s < r <;> simp [h1, h2]
/-! ### rows -/
abbrev Row := List (Option Rat) × Int
def dNs (xs : List (Option Rat)) : D := .tup (xs.map dN)
def dRow (r : Row) : D := .tup [dNs r.1, .int r.2]
def isYes (c : Nat) (cut : Rat) (xs : List (Option Rat)) : Bool := match xs[c]? with
  | some (some r) => decide (r ≤ cut)
  | _ => false
/-- numbers of less than k bits, n of them -/
def NsOk (k n : Nat) (xs : List (Option Rat)) : Prop := xs.length = n ∧ ∀ x ∈ xs, SzN k x
def YesF (k : Nat) (f : FM) : Prop := ∀ (xs : List (Option Rat)) (n c : Nat) (cut : Rat) (g : Gh), NsOk k n xs → c < n → Sz k cut → f [dNs xs, .int c, dR cut] g = .ok (.bl (isYes c cut xs)) g
theorem yes_spec {k : Nat} {h : FM} (hh : HeldF k h) : YesF k (mFun 3 3 (P_b_is_yes h)) := fun xs n c cut g hx hc hs => by
  have hc' : c < xs.length := by rw [hx.1]; exact hc
  have e1 : atI (xs.map dN) (c : Int) = some (dN xs[c]) := by rw [atI_nat (by simpa using hc')]; simp
  have e2 : xs[c]? = some xs[c] := by simp [hc']
  have hm := hx.2 xs[c] (List.getElem_mem hc')
  cases hv : xs[c] with
  | none =>
    rw [hv] at e1 e2
    simp [mFun, P_b_is_yes, dNs, e1, isYes, e2, endR]
  | some r =>
    rw [hv] at e1 e2 hm
    have e3 := hh r cut g (hm r rfl) hs
    have e4 := held_le (r := r) (s := cut)
    simp only [dN] at e1
    simp [mFun, P_b_is_yes, dNs, e1, isYes, e2, permL, e3, e4, endR]
def RowsOk (k n m : Nat) (rows : List Row) : Prop := rows.length ≤ m ∧ ∀ r ∈ rows, NsOk k n r.1 ∧ Bd 20 r.2
def dRows (rows : List Row) : D := .lst (rows.map dRow)
def PartF (k m : Nat) (f : FM) : Prop := ∀ (rows : List Row) (n c : Nat) (cut : Rat) (g : Gh), RowsOk k n m rows → c < n → Sz k cut →
  f [dRows rows, .int c, dR cut] g = .ok (.tup [dRows (rows.filter fun r => isYes c cut r.1), dRows (rows.filter fun r => !isYes c cut r.1)]) g
theorem part_spec {k m : Nat} {y : FM} (hy : YesF k y) (hm : m ≤ LIM) : PartF k m (mFun 3 5 (P_b_rows_parted y)) := fun rows n c cut g hr hc hs => by
  have a0 : ∀ r : Row, atI [dNs r.1, D.int r.2] 0 = some (dNs r.1) := fun _ => rfl
  have l1 : (rows.filter fun r => isYes c cut r.1).length ≤ LIM := Nat.le_trans (List.length_filter_le _ _) (Nat.le_trans hr.1 hm)
  have l2 : (rows.filter fun r => !isYes c cut r.1).length ≤ LIM := Nat.le_trans (List.length_filter_le _ _) (Nat.le_trans hr.1 hm)
  have e1 := compL_mapT (tg := gNm 4) (t := P_ct_rows_parted_2 y) (el := P_ce_rows_parted_1) (env := [.val (dRows rows), .val (.int c), .val (dR cut), .un, .un]) (g := g) dRow (fun r => isYes c cut r.1) dRow rows (fun r hr' => by
    refine ⟨_, rfl, ?_, fun _ => ?_⟩
    · have e := hy r.1 n c cut g (hr.2 r hr').1 hc hs
      simp [P_ct_rows_parted_2, permL, dRow, a0, e]
    · simp [P_ce_rows_parted_1])
  have e2 := compL_mapT (tg := gNm 4) (t := P_ct_rows_parted_4 y) (el := P_ce_rows_parted_3) (env := [.val (dRows rows), .val (.int c), .val (dR cut), .val (dRows (rows.filter fun r => isYes c cut r.1)), .un]) (g := g) dRow (fun r => !isYes c cut r.1) dRow rows (fun r hr' => by
    refine ⟨_, rfl, ?_, fun _ => ?_⟩
    · have e := hy r.1 n c cut g (hr.2 r hr').1 hc hs
      simp [P_ct_rows_parted_4, permL, dRow, a0, e]
    · simp [P_ce_rows_parted_3])
  simp only [dRows] at e1 e2
  simp [mFun, P_b_rows_parted, dRows, blkE, wipeE, hideS, e1, e2, l1, l2, lim2, endR]
def LabF (f : FM) : Prop := ∀ (rows : List Row) (g : Gh), rows.length ≤ LIM → f [dRows rows] g = .ok (.lst ((rows.map (·.2)).map D.int)) g
theorem lab_spec : LabF (mFun 1 3 P_b_labels_of) := fun rows g hl => by
  have e1 := compL_mapT (tg := gTp 2 (gsCons (gNm 1) (gsCons (gNm 2) gsNil))) (t := tTrue) (el := P_ce_labels_of_1) (env := [.val (dRows rows), .un, .un]) (g := g) dRow (fun _ => true) (fun r => D.int r.2) rows (fun r _ => by
    refine ⟨[.val (dRows rows), .val (dNs r.1), .val (.int r.2)], by simp [dRow], rfl, fun _ => ?_⟩
    simp [P_ce_labels_of_1])
  have ef : rows.filter (fun _ => true) = rows := by simp
  rw [ef] at e1
  simp only [dRows] at e1
  have hl' : (rows.map fun r => D.int r.2).length ≤ LIM := by simpa using hl
  simp [mFun, P_b_labels_of, dRows, blkE, wipeE, hideS, e1, hl, endR]
def spreadR (ls : List Int) : Rat := if ls = [] then 0 else Rat.divInt (ls.length * (ls.map fun l => l * l).sum - ls.sum * ls.sum) ls.length
def LsOk (ls : List Int) : Prop := ls.length ≤ 1000 ∧ ∀ l ∈ ls, Bd 20 l
theorem LsOk.sum {ls : List Int} (h : LsOk ls) : Bd 30 ls.sum := by
  have := sum_bd (B := 2 ^ 20 - 1) fun l hl => by have := h.2 l hl; show l.natAbs ≤ 2 ^ 20 - 1; have h : l.natAbs < 2 ^ 20 := this; omega
  have h2 : ls.length * (2 ^ 20 - 1) ≤ 1000 * (2 ^ 20 - 1) := Nat.mul_le_mul_right _ h.1
  show ls.sum.natAbs < 2 ^ 30
  omega
theorem LsOk.sq {ls : List Int} (h : LsOk ls) : Bd 50 (ls.map fun l => l * l).sum := by
  have := sum_bd (B := 2 ^ 40 - 1) (ls := ls.map fun l => l * l) fun l hl => by
    obtain ⟨x, hx, rfl⟩ := List.mem_map.mp hl
    have : (x * x).natAbs < 2 ^ 40 := (h.2 x hx).mul (h.2 x hx)
    omega
  rw [List.length_map] at this
  have h2 : ls.length * (2 ^ 40 - 1) ≤ 1000 * (2 ^ 40 - 1) := Nat.mul_le_mul_right _ h.1
  show Int.natAbs _ < 2 ^ 50
  omega
theorem LsOk.len {ls : List Int} (h : LsOk ls) : Bd 20 (ls.length : Int) := by
  show Int.natAbs _ < 2 ^ 20
  have := h.1
  omega
theorem LsOk.top {ls : List Int} (h : LsOk ls) : Bd 71 (ls.length * (ls.map fun l => l * l).sum - ls.sum * ls.sum) := by
  rw [Int.sub_eq_add_neg]
  exact (h.len.mul h.sq).add ((h.sum.mul h.sum).neg.mono (by decide))
theorem spread_sz {ls : List Int} (h : LsOk ls) : Sz 71 (spreadR ls) := by
  unfold spreadR
  split
  · exact ⟨(by decide : Bd 2 0).mono (by decide), (by decide : Bd 2 1).mono (by decide)⟩
  · rename_i hne
    have : (ls.length : Int) ≠ 0 := by
      have : ls.length ≠ 0 := fun e => hne (List.length_eq_zero_iff.mp e)
      omega
    exact .div this h.top (h.len.mono (by decide))
def SpreadF (f : FM) : Prop := ∀ (ls : List Int) (g : Gh), LsOk ls → f [.lst (ls.map D.int)] g = .ok (dR (spreadR ls)) g
theorem spread_spec {K : Nat} {lw : FM} (hl : LowF K lw) (hK : 71 ≤ K) : SpreadF (mFun 1 3 (P_b_spread_of lw)) := fun ls g h => by
  by_cases h0 : ls = []
  · subst h0
    simp [mFun, P_b_spread_of, spreadR, endR]; rfl
  · have hn : (ls.length : Int) ≠ 0 := by
      have : ls.length ≠ 0 := fun e => h0 (List.length_eq_zero_iff.mp e)
      omega
    have e1 := compL_mapT (tg := gNm 2) (t := tTrue) (el := P_ce_spread_of_1) (env := [.val (.lst (ls.map D.int)), .val (.int ls.sum), .un]) (g := g) D.int (fun _ => true) (fun l => D.int (l * l)) ls (fun l hl' => by
      refine ⟨_, rfl, rfl, fun _ => ?_⟩
      simp [P_ce_spread_of_1, mm (by decide) (by decide) (h.2 l hl') (h.2 l hl')])
    have ef : ls.filter (fun _ => true) = ls := by simp
    rw [ef] at e1
    have ll : ls.length ≤ LIM := Nat.le_trans h.1 (by decide)
    have es := oSum_map (ls.map fun l => l * l) g
    rw [List.map_map] at es
    have m1 : mulOk (ls.length : Int) (ls.map fun l => l * l).sum = true := mulOk_left (h.len.mono (by decide))
    have m2 : mulOk ls.sum ls.sum = true := mm (by decide) (by decide) h.sum h.sum
    have e2 := hl _ _ g hn (h.top.mono hK) (h.len.mono (by omega))
    have hf : (D.int ∘ fun l : Int => l * l) = fun l => D.int (l * l) := rfl
    rw [hf] at es
    have hlen0 : ¬ ls.length = 0 := fun e => h0 (List.length_eq_zero_iff.mp e)
    simp [mFun, P_b_spread_of, h0, hlen0, e1, ll, blkE, wipeE, hideS, es, m1, m2, permL, e2, endR, spreadR]
end GL
/-! GL part 61: texts: which may be asked for equality, how long they are, how cells are written. -/
namespace GL
open PySem L2
abbrev sOk (x : Str) : Prop := PyData.strOk x = true
theorem sOk_iff {x : Str} : sOk x ↔ ∀ c ∈ x.cps.toList, c < 0x110000 := by
  unfold sOk PyData.strOk
  rw [Array.all_eq_true']
  simp
theorem sOk_of (s : String) : sOk (Str.ofString s) := by
  rw [sOk_iff, Str.ofString_eq_toList]
  intro c hc
  simp only [List.mem_map] at hc
  obtain ⟨a, _, rfl⟩ := hc
  have := a.valid
  rcases this with h | ⟨_, h⟩
  · exact Nat.lt_trans h (by decide)
  · exact h
theorem sOk_app {x y : Str} (hx : sOk x) (hy : sOk y) : sOk (x ++ y) := by
  rw [sOk_iff] at *
  intro c hc
  have : c ∈ (x.cps ++ y.cps).toList := hc
  rw [Array.toList_append, List.mem_append] at this
  rcases this with h | h
  · exact hx c h
  · exact hy c h
theorem sOk_join {y : Str} (hy : sOk y) : ∀ xs : List Str, (∀ x ∈ xs, sOk x) → sOk (Str.join y xs)
  | [], _ => sOk_of ""
  | [x], h => h x (by simp)
  | x :: z :: r, h => by
    show sOk (x ++ y ++ Str.join y (z :: r))
    exact sOk_app (sOk_app (h x (by simp)) hy) (sOk_join hy (z :: r) fun q hq => h q (List.mem_cons_of_mem _ hq))
theorem sOk_tjoin {y : Str} (hy : sOk y) {xs : List Str} (h : ∀ x ∈ xs, sOk x) : sOk (Txt.join y xs) := by
  rw [TL.join_eq]; exact sOk_join hy xs h
theorem len_app (x y : Str) : (x ++ y).length = x.length + y.length := by
  show (x.cps ++ y.cps).size = _
  rw [Array.size_append]; rfl
theorem len_shI {i : Int} (h : Bd 60 i) : (shI i).length ≤ 61 := by
  unfold shI
  rw [PySem.ofString_length]
  exact PySem.int_text_length_le (k := 60) (by decide) (log2_of (by decide) h)
theorem oStrS_int {i : Int} {g : Gh} (h : Bd 60 i) : oStrS [.int i] g = .ok (.str (shI i)) g := by
  have : i.natAbs.log2 < 1920 := Nat.lt_trans (log2_of (n := 60) (by decide) h) (by decide)
  simp [oStrS, this]
theorem oStrS_str {x : Str} {g : Gh} : oStrS [.str x] g = .ok (.str x) g := rfl
/-- a whole number's text -/
def figT (i : Int) : Str := if 0 ≤ i then shI i else "~" ++ shI (-i)
theorem figT_len {i : Int} (h : Bd 60 i) : (figT i).length ≤ 62 := by
  unfold figT
  split
  · have := len_shI h; omega
  · rw [len_app]
    have := len_shI h.neg
    have e : (Str.ofString "~").length = 1 := by decide +kernel
    omega
theorem figT_ok (i : Int) : sOk (figT i) := by
  unfold figT
  split
  · exact sOk_of _
  · exact sOk_app (sOk_of _) (sOk_of _)
/-- a short text -/
def Sm (x : Str) : Prop := x.length ≤ 40 ∧ sOk x
theorem sm_of {s : String} (h : s.length ≤ 40) : Sm (Str.ofString s) := ⟨by rw [PySem.ofString_length]; exact h, sOk_of s⟩
/-- a cell, or any small thing of a feed -/
def CellD (d : D) : Prop := d = .non ∨ (∃ i, d = .int i ∧ Bd 60 i) ∨ ∃ s, d = .str s ∧ Sm s
theorem cell_non : CellD .non := .inl rfl
theorem cell_int {i : Int} (h : Bd 60 i) : CellD (.int i) := .inr (.inl ⟨i, rfl, h⟩)
theorem cell_str {x : Str} (h : Sm x) : CellD (.str x) := .inr (.inr ⟨x, rfl, h⟩)
def cellT : D → Str
  | .non => "-"
  | .str s => "'" ++ s
  | .int i => figT i
  | _ => ""
def thingT : D → Str
  | .str s => s
  | d => cellT d
theorem cellT_len {d : D} (h : CellD d) : (cellT d).length ≤ 62 := by
  rcases h with rfl | ⟨i, rfl, h⟩ | ⟨s, rfl, h⟩
  · decide +kernel
  · exact figT_len h
  · show ("'" ++ s : Str).length ≤ 62
    rw [len_app]
    have e : (Str.ofString "'").length = 1 := by decide +kernel
    have := h.1
    omega
theorem cellT_ok {d : D} (h : CellD d) : sOk (cellT d) := by
  rcases h with rfl | ⟨i, rfl, h⟩ | ⟨s, rfl, h⟩
  · exact sOk_of _
  · exact figT_ok i
  · exact sOk_app (sOk_of _) h.2
theorem thingT_len {d : D} (h : CellD d) : (thingT d).length ≤ 62 := by
  rcases h with rfl | ⟨i, rfl, h⟩ | ⟨s, rfl, h⟩
  · decide +kernel
  · exact figT_len h
  · exact Nat.le_trans h.1 (by decide)
theorem thingT_ok {d : D} (h : CellD d) : sOk (thingT d) := by
  rcases h with rfl | ⟨i, rfl, h⟩ | ⟨s, rfl, h⟩
  · exact sOk_of _
  · exact figT_ok i
  · exact h.2
theorem sum_len {α : Type} {f : α → Nat} {b : Nat} : ∀ {l : List α}, (∀ x ∈ l, f x ≤ b) → (l.map f).sum ≤ b * l.length
  | [], _ => by simp
  | x :: l, h => by
    have h1 := h x (by simp)
    have h2 := sum_len (l := l) fun y hy => h y (List.mem_cons_of_mem _ hy)
    simp only [List.map_cons, List.sum_cons, List.length_cons, Nat.mul_add]; omega
theorem join_ap {z : Str} {ss : List Str} {g : Gh} (hz : z.length ≤ 1) (hl : ss.length ≤ 30) (h : ∀ s ∈ ss, s.length ≤ 62) : joinD z (.lst (ss.map D.str)) g = .ok (.str (Txt.join z ss)) g := by
  have h1 := sum_len (f := fun s : Str => s.length) h
  have h2 : ss.length * z.length ≤ 30 * 1 := Nat.mul_le_mul hl hz
  have h3 : 62 * ss.length ≤ 62 * 30 := Nat.mul_le_mul_left _ hl
  have : (ss.map (·.length)).sum + ss.length * z.length ≤ LIM := Nat.le_trans (by omega : _ ≤ 3000) (by decide)
  simp [joinD, asStrs_map, joinG, this]
/-- lists of texts alike -/
theorem ok_strs {ss : List Str} (h : ∀ s ∈ ss, sOk s) : okD (.lst (ss.map D.str)) 64 = true := by
  simp only [okD, okDs_all, List.all_map, List.all_eq_true]
  intro s hs
  simp only [Function.comp, okD]; exact h s hs
theorem ne_strs {ss : List Str} {g : Gh} (h : ∀ s ∈ ss, sOk s) : cmpop .NotEq (.lst (ss.map D.str)) (.lst (ss.map D.str)) g = .ok (.bl false) g := ne_same (ok_strs h)
/-- [f(x) for x in xs] where f tells a text of each and leaves all as it is -/
theorem comp_txt {e : ME} {i : Nat} {env : Env'} {g : Gh} {xs : List D} (T : D → Str) (h : ∀ d ∈ xs, e (env.set i (.val d)) g = .ok (.str (T d)) g) :
    compL none (gNm i) tTrue e xs env g = .ok ((xs.map T).map D.str) g := by
  have := compL_map (tg := gNm i) (t := tTrue) (e := e) (env := env) (g := g) (fun _ => true) (fun d => D.str (T d)) xs (fun d hd => ⟨_, rfl, rfl, fun _ => h d hd⟩)
  rw [this, List.filter_eq_self.mpr (fun _ _ => rfl), List.map_map]; rfl
/-- draws of whatever kind, one for each thing of a list -/
theorem compL_ex {α : Type} (enc : α → D) {i : Nat} {e : ME} {env : Env'} {n : Nat} (I : α → Prop) : ∀ ds : List D, (∀ d ∈ ds, ∀ g, HasBag n g → ∃ x g', I x ∧ HasBag n g' ∧ e (env.set i (.val d)) g = .ok (enc x) g') → ∀ g, HasBag n g →
    ∃ (xs : List α) (g' : Gh), xs.length = ds.length ∧ (∀ x ∈ xs, I x) ∧ HasBag n g' ∧ compL none (gNm i) tTrue e ds env g = .ok (xs.map enc) g'
  | [], _, g, hg => ⟨[], g, rfl, (fun _ q => nomatch q), hg, compL_nil⟩
  | d :: ds, h, g, hg => by
    obtain ⟨x, g1, hx, hg1, e1⟩ := h d List.mem_cons_self g hg
    obtain ⟨xs, g2, l, hxs, hg2, e2⟩ := compL_ex enc I ds (fun d hd => h d (List.mem_cons_of_mem _ hd)) g1 hg1
    refine ⟨x :: xs, g2, by simp [l], ?_, hg2, ?_⟩
    · intro z hz
      rcases List.mem_cons.mp hz with rfl | hz
      · exact hx
      · exact hxs z hz
    · rw [compL_cons]
      simp only [gNm_ap, tTrue_ap, if_true, e1, e2, List.map_cons]
/-- .. with another target -/
theorem compL_exT {α : Type} (enc : α → D) {tg : MG} {e : ME} {env : Env'} {n : Nat} (I : α → Prop) : ∀ ds : List D, (∀ d ∈ ds, ∃ env1, tg d env = some env1 ∧ ∀ g, HasBag n g → ∃ x g', I x ∧ HasBag n g' ∧ e env1 g = .ok (enc x) g') → ∀ g, HasBag n g →
    ∃ (xs : List α) (g' : Gh), xs.length = ds.length ∧ (∀ x ∈ xs, I x) ∧ HasBag n g' ∧ compL none tg tTrue e ds env g = .ok (xs.map enc) g'
  | [], _, g, hg => ⟨[], g, rfl, (fun _ q => nomatch q), hg, compL_nil⟩
  | d :: ds, h, g, hg => by
    obtain ⟨env1, ht, h1⟩ := h d List.mem_cons_self
    obtain ⟨x, g1, hx, hg1, e1⟩ := h1 g hg
    obtain ⟨xs, g2, l, hxs, hg2, e2⟩ := compL_exT enc I ds (fun d hd => h d (List.mem_cons_of_mem _ hd)) g1 hg1
    refine ⟨x :: xs, g2, by simp [l], ?_, hg2, ?_⟩
    · intro z hz
      rcases List.mem_cons.mp hz with rfl | hz
      · exact hx
      · exact hxs z hz
    · rw [compL_cons, ht]
      simp only [tTrue_ap, if_true, e1, e2, List.map_cons]
/-- a thing of a list, by its place -/
theorem pick_at {xs : List D} {r : Int} (P : D → Prop) (h0 : 0 ≤ r) (h1 : r < xs.length) (h : ∀ d ∈ xs, P d) : ∃ d, P d ∧ atI xs r = some d := by
  obtain ⟨j, rfl⟩ : ∃ j : Nat, r = j := ⟨r.toNat, by omega⟩
  have hj : j < xs.length := by omega
  refine ⟨xs[j], h _ (List.getElem_mem hj), ?_⟩
  unfold atI
  rw [ixN_nat hj]
  simp [hj]
theorem str_nil (x : Str) : x ++ Str.empty = x := by
  show (⟨x.cps ++ #[]⟩ : Str) = x
  simp
theorem str_assoc (x y z : Str) : x ++ y ++ z = x ++ (y ++ z) := by
  show (⟨x.cps ++ y.cps ++ z.cps⟩ : Str) = ⟨x.cps ++ (y.cps ++ z.cps)⟩
  rw [Array.append_assoc]
@[simp] theorem sOwnExt_ap {i : Nat} {a : ME} {env : Env'} {g : Gh} : sOwnExt i a env g = match env[i]? with
  | some (.own xs) => (a env g).bindS fun d g1 => extS i env xs (deref g1 d) g1
  | _ => .bad := rfl
@[simp] theorem eIsi_ap' {f : D → Option Bool} {a : ME} {env : Env'} {g : Gh} : eIsi f a env g = (a env g).bind fun x g1 => match f (deref g1 x) with
  | some b => .ok (.bl b) g1
  | none => .bad := rfl
@[simp] theorem subS_ap {z : Str} {i : Int} {g : Gh} : subD (.str z) (.int i) g = if z.length ≤ LIM then (match atI z.cps.toList i with | some c => .ok (.str ⟨#[c]⟩) g | none => .bad) else .bad := rfl
/-! ### sources, letters -/
abbrev Src := Str × List (Str × Str)
def encC (q : Str × Str) : D := .tup [.str q.1, .str q.2]
def encS (p : Src) : D := .tup [.str p.1, .tup (p.2.map encC)]
def SrcOk (p : Src) : Prop := Sm p.1 ∧ p.2.length ≤ 3 ∧ ∀ q ∈ p.2, Sm q.1 ∧ Sm q.2
def src0 : Src := ("ab", [("x", "number"), ("to", "word")])
def SrcsOk (ss : List Src) : Prop := ∃ r, ss = src0 :: r ∧ r.length ≤ 2 ∧ ∀ p ∈ r, SrcOk p
theorem src0_ok : SrcOk src0 := ⟨sm_of (by decide), by decide, by
  intro q hq
  simp only [src0, List.mem_cons, List.not_mem_nil, or_false] at hq
  rcases hq with rfl | rfl <;> exact ⟨sm_of (by decide), sm_of (by decide)⟩⟩
theorem SrcsOk.all {ss : List Src} (h : SrcsOk ss) : ss.length ≤ 3 ∧ 0 < ss.length ∧ ∀ p ∈ ss, SrcOk p := by
  obtain ⟨r, rfl, h1, h2⟩ := h
  refine ⟨by simp; omega, by simp, fun p hp => ?_⟩
  rcases List.mem_cons.mp hp with rfl | hp
  · exact src0_ok
  · exact h2 p hp
def LetD (d : D) : Prop := ∃ l i j, Sm l ∧ Bd 60 i ∧ Bd 60 j ∧ (d = .tup [.str "unsay", .str l, .int i, .int j] ∨
  ∃ key m cs, Sm key ∧ Bd 60 m ∧ cs.length ≤ 3 ∧ (∀ c ∈ cs, CellD c) ∧ d = .tup [.str "say", .str l, .int i, .int j, .str key, .int m, .tup cs])
def letT : D → Str
  | .tup [.str w, .str l, .int i, .int j] => Txt.join " " [w, l, shI i, shI j]
  | .tup [.str w, .str l, .int i, .int j, .str key, .int m, .tup cs] => Txt.join " " ([w, l, shI i, shI j] ++ ([key, shI m] ++ cs.map cellT))
  | _ => ""
def FeedD (d : D) : Prop := ∃ xs, d = .tup xs ∧ xs.length ≤ 10 ∧ ∀ x ∈ xs, CellD x
def feedT : D → Str
  | .tup xs => Txt.join " " (xs.map thingT)
  | _ => ""
def NumD (d : D) : Prop := d = .non ∨ ∃ a b, d = .tup [.int a, .int b] ∧ Bd 60 a ∧ Bd 60 b
def numT : D → Str
  | .tup [.int a, .int b] => if b = 1 then figT a else figT a ++ "/" ++ shI b
  | _ => "-"
theorem sm_le {x : Str} (h : Sm x) : x.length ≤ 62 := Nat.le_trans h.1 (by decide)
theorem shI_le {i : Int} (h : Bd 60 i) : (shI i).length ≤ 62 := Nat.le_trans (len_shI h) (by decide)
theorem letT_ok {d : D} (h : LetD d) : sOk (letT d) := by
  obtain ⟨l, i, j, hl, hi, hj, rfl | ⟨key, m, cs, hk, hm, hc, hcs, rfl⟩⟩ := h
  · refine sOk_tjoin (sOk_of _) fun x hx => ?_
    simp only [List.mem_cons, List.not_mem_nil, or_false] at hx
    rcases hx with rfl | rfl | rfl | rfl
    · exact sOk_of _
    · exact hl.2
    · exact sOk_of _
    · exact sOk_of _
  · refine sOk_tjoin (sOk_of _) fun x hx => ?_
    simp only [List.mem_append, List.mem_cons, List.not_mem_nil, or_false, List.mem_map] at hx
    rcases hx with (rfl | rfl | rfl | rfl) | (rfl | rfl) | ⟨c, hc', rfl⟩
    · exact sOk_of _
    · exact hl.2
    · exact sOk_of _
    · exact sOk_of _
    · exact hk.2
    · exact sOk_of _
    · exact cellT_ok (hcs c hc')
theorem feedT_ok {d : D} (h : FeedD d) : sOk (feedT d) := by
  obtain ⟨xs, rfl, _, h⟩ := h
  refine sOk_tjoin (sOk_of _) fun x hx => ?_
  obtain ⟨c, hc, rfl⟩ := List.mem_map.mp hx
  exact thingT_ok (h c hc)
theorem numT_ok {d : D} (h : NumD d) : sOk (numT d) := by
  rcases h with rfl | ⟨a, b, rfl, _, _⟩
  · exact sOk_of _
  · simp only [numT]
    split
    · exact figT_ok a
    · exact sOk_app (sOk_app (figT_ok a) (sOk_of _)) (sOk_of _)
end GL
/-! GL part 22: how trees are learnt. -/
namespace GL
open PySem L2
noncomputable def P_ce_tests_of_1 : ME := eSub (eLv 7) (eLv 2)
noncomputable def P_lp_tests_of_2 (c_worked : FM) (c_spread_of : FM) (c_labels_of : FM) (c_rows_parted : FM) : MS := sSeq (sAsg (eCall c_rows_parted 3 0 [0, 1, 2] [] (lCons (eLv 0) (lCons (eLv 2) (lCons (eLv 3) (lNil)))) (lNil)) (gSq 2 (gsCons (gNm 4) (gsCons (gNm 5) (gsNil))))) (sIf (tV (eCmp .NotEq (eLv 5) (eNew (fLst (lNil))))) (sSeq (sSet 6 (eCall c_worked 3 0 [0, 1, 2] [] (lCons (eC (.str "plus")) (lCons (eCall c_spread_of 1 0 [0] [] (lCons (eCall c_labels_of 1 0 [0] [] (lCons (eLv 4) (lNil)) (lNil)) (lNil)) (lNil)) (lCons (eCall c_spread_of 1 0 [0] [] (lCons (eCall c_labels_of 1 0 [0] [] (lCons (eLv 5) (lNil)) (lNil)) (lNil)) (lNil)) (lNil)))) (lNil))) (sOwnApp 1 (eTup (lCons (eLv 6) (lCons (eLv 2) (lCons (eLv 3) (lNil))))))) (sSkip))
noncomputable def P_lp_tests_of_3 (c_worked : FM) (c_spread_of : FM) (c_labels_of : FM) (c_rows_parted : FM) (c_rising_numbers : FM) : MS := sFor (iV (eCall c_rising_numbers 1 0 [0] [] (lCons (eNew (lComp (iV (eLv 0)) (gTp 2 (gsCons (gNm 7) (gsCons (gNm 8) (gsNil)))) (tTrue) (P_ce_tests_of_1) [7, 8])) (lNil)) (lNil))) (gNm 3) (P_lp_tests_of_2 c_worked c_spread_of c_labels_of c_rows_parted)
noncomputable def P_b_tests_of (c_worked : FM) (c_spread_of : FM) (c_labels_of : FM) (c_rows_parted : FM) (c_rising_numbers : FM) : MS := sSeq (sSetOwn 1 (fLst (lNil))) (sSeq (sFor (iRange1 (eBi oLen (lCons (eSub (eSub (eLv 0) (eC (.int 0))) (eC (.int 0))) (lNil)))) (gNm 2) (P_lp_tests_of_3 c_worked c_spread_of c_labels_of c_rows_parted c_rising_numbers)) (sFreeze 1 (sRet (eLv 1))))
noncomputable def P_lp_best_test_1 (c_held : FM) : MS := sIf (tV (eCmp .Lt (eCall c_held 2 0 [0, 1] [] (lCons (eLv 3) (lCons (eLv 2) (lNil))) (lNil)) (eC (.int 0)))) (sPar 1 2 (lCons (eTup (lCons (eLv 4) (lCons (eLv 5) (lNil)))) (lCons (eLv 3) (lNil)))) (sSkip)
noncomputable def P_b_best_test (c_held : FM) (c_spread_of : FM) (c_labels_of : FM) (c_tests_of : FM) : MS := sSeq (sPar 1 2 (lCons (eC .non) (lCons (eCall c_spread_of 1 0 [0] [] (lCons (eCall c_labels_of 1 0 [0] [] (lCons (eLv 0) (lNil)) (lNil)) (lNil)) (lNil)) (lNil)))) (sSeq (sFor (iV (eCall c_tests_of 1 0 [0] [] (lCons (eLv 0) (lNil)) (lNil))) (gTp 3 (gsCons (gNm 3) (gsCons (gNm 4) (gsCons (gNm 5) (gsNil))))) (P_lp_best_test_1 c_held)) (sRet (eLv 1)))
noncomputable def P_b_tree_of (c_leaf_of : FM) (c_rows_parted : FM) (c_best_test : FM) (c_tree_of : FM) : MS := sSeq (sSet 2 (eIf (tV (eCmp .Gt (eLv 1) (eC (.int 0)))) (eCall c_best_test 1 0 [0] [] (lCons (eLv 0) (lNil)) (lNil)) (eC .non))) (sSeq (sIf (tV (eCmp .Is (eLv 2) (eC .non))) (sRet (eCall c_leaf_of 1 0 [0] [] (lCons (eLv 0) (lNil)) (lNil))) (sSkip)) (sSeq (sAsg (eLv 2) (gSq 2 (gsCons (gNm 3) (gsCons (gNm 4) (gsNil))))) (sSeq (sAsg (eCall c_rows_parted 3 0 [0, 1, 2] [] (lCons (eLv 0) (lCons (eLv 3) (lCons (eLv 4) (lNil)))) (lNil)) (gSq 2 (gsCons (gNm 5) (gsCons (gNm 6) (gsNil))))) (sRet (eTup (lCons (eC (.str "test")) (lCons (eLv 3) (lCons (eLv 4) (lCons (eCall c_tree_of 1 1 [0, 1] [] (lCons (eLv 5) (lNil)) (lCons (eBin .Sub (eLv 1) (eC (.int 1))) (lNil))) (lCons (eCall c_tree_of 1 1 [0, 1] [] (lCons (eLv 6) (lNil)) (lCons (eBin .Sub (eLv 1) (eC (.int 1))) (lNil))) (lNil)))))))))))
noncomputable def P_wl_answer_of_1 (c_is_yes : FM) : MS := sSeq (sAsg (eLv 3) (gSq 4 (gsCons (gNm 4) (gsCons (gNm 5) (gsCons (gNm 6) (gsCons (gNm 7) (gsNil))))))) (sAsg (eIf (tV (eCall c_is_yes 3 0 [0, 1, 2] [] (lCons (eLv 1) (lCons (eLv 4) (lCons (eLv 5) (lNil)))) (lNil))) (eLv 6) (eLv 7)) (gSt 1 2 (gsCons (gNm 2) (gsCons (gNm 3) (gsNil)))))
noncomputable def P_wt_answer_of_2 : MT := tV (eCmp .Eq (eLv 2) (eC (.str "test")))
noncomputable def P_b_answer_of (c_is_yes : FM) : MS := sSeq (sAsg (eLv 0) (gSt 1 2 (gsCons (gNm 2) (gsCons (gNm 3) (gsNil))))) (sSeq (sWhile (P_wt_answer_of_2) (P_wl_answer_of_1 c_is_yes)) (sRet (eSub (eLv 3) (eC (.int 0)))))
/-- a loop that folds, with what was met before -/
theorem forL_foldP {α S : Type} {tg : MG} {b : MS} {g : Gh} (e : α → D) (f : S → α → S) (s0 : S) (Rl : S → Env' → Prop) (all : List α) (hb : ∀ pre x post, all = pre ++ x :: post → ∀ env, Rl (pre.foldl f s0) env → ∃ env1, tg (e x) env = some env1 ∧ ∃ env2, b env1 g = .nx env2 g ∧ Rl (f (pre.foldl f s0) x) env2) :
    ∀ (post pre : List α) (env : Env'), all = pre ++ post → Rl (pre.foldl f s0) env → ∃ env', forL none tg b (post.map e) env g = .nx env' g ∧ Rl (all.foldl f s0) env'
  | [], pre, env, ha, h => by
    rw [List.append_nil] at ha
    subst ha
    exact ⟨env, forL_nil, h⟩
  | x :: post, pre, env, ha, h => by
    obtain ⟨env1, e1, env2, e2, h2⟩ := hb pre x post ha env h
    obtain ⟨env', e3, h3⟩ := forL_foldP e f s0 Rl all hb post (pre ++ [x]) env2 (by rw [ha]; simp) (by rw [List.foldl_append]; exact h2)
    refine ⟨env', ?_, h3⟩
    rw [List.map_cons, forL_cons, e1]
    simp only [e2]
    exact e3
@[simp] theorem hideS_val {d : D} : hideS (.val d) = .val d := rfl
@[simp] theorem hideS_un : hideS .un = .un := rfl
@[simp] theorem hideS_own {xs : List D} : hideS (.own xs) = .un := rfl
theorem okDs_map {α : Type} {f : α → D} {n : Nat} (h : ∀ x, okD (f x) n = true) (xs : List α) : okDs (xs.map f) n = true := by
  induction xs with
  | nil => rfl
  | cons x xs ih => simp only [List.map_cons, okDs, h x, ih, Bool.and_self]
theorem okD_dR (r : Rat) (n : Nat) : okD (dR r) (n + 1) = true := rfl
theorem frDs_map {α : Type} {f : α → D} (h : ∀ x, frD (f x) = true) (xs : List α) : frDs (xs.map f) = true := by
  induction xs with
  | nil => rfl
  | cons x xs ih => simp only [List.map_cons, frDs, h x, ih, Bool.and_self]
theorem frD_dR (r : Rat) : frD (dR r) = true := rfl
theorem frD_dN (x : Option Rat) : frD (dN x) = true := by cases x <;> rfl
theorem memD_dR (r : Rat) (acc : List Rat) : memD (dR r) (acc.map dR) = decide (r ∈ acc) := by
  induction acc with
  | nil => rfl
  | cons a acc ih =>
    unfold memD at ih ⊢
    rw [List.map_cons, List.any_cons, ih, eqD_dR]
    by_cases h : a = r
    · subst h; simp
    · have : ¬ r = a := fun e => h e.symm
      simp [h, this]
/-! ### numbers in rising order -/
def riseS (acc : List Rat) (x : Option Rat) : List Rat := match x with
  | none => acc
  | some r => if r ∈ acc then acc else acc.take (acc.filter fun a => decide (a < r)).length ++ [r] ++ acc.drop (acc.filter fun a => decide (a < r)).length
def riseR (xs : List (Option Rat)) : List Rat := xs.foldl riseS []
theorem riseS_len (acc : List Rat) (x : Option Rat) : (riseS acc x).length ≤ acc.length + 1 := by
  unfold riseS
  split
  · omega
  · split
    · omega
    · simp only [List.length_append, List.length_take, List.length_drop, List.length_singleton]; omega
theorem riseS_mem {acc : List Rat} {x : Option Rat} {r : Rat} : r ∈ riseS acc x ↔ r ∈ acc ∨ x = some r := by
  unfold riseS
  cases x with
  | none => simp
  | some q =>
    simp only [Option.some.injEq]
    by_cases h : q ∈ acc
    · rw [if_pos h]
      exact ⟨fun h' => .inl h', fun h' => by rcases h' with h' | rfl; exact h'; exact h⟩
    · rw [if_neg h]
      generalize (acc.filter fun a => decide (a < q)).length = n
      have : acc = acc.take n ++ acc.drop n := (List.take_append_drop n acc).symm
      constructor
      · intro h'
        simp only [List.mem_append, List.mem_singleton] at h'
        rcases h' with (h' | h') | h'
        · exact .inl (List.mem_of_mem_take h')
        · exact .inr h'.symm
        · exact .inl (List.mem_of_mem_drop h')
      · intro h'
        simp only [List.mem_append, List.mem_singleton]
        rcases h' with h' | h'
        · rw [this] at h'
          rcases List.mem_append.mp h' with h' | h'
          · exact .inl (.inl h')
          · exact .inr h'
        · exact .inl (.inr h'.symm)
theorem rise_fold_mem (xs : List (Option Rat)) (acc : List Rat) {r : Rat} : r ∈ xs.foldl riseS acc ↔ r ∈ acc ∨ some r ∈ xs := by
  induction xs generalizing acc with
  | nil => simp
  | cons x xs ih =>
    rw [List.foldl_cons, ih, riseS_mem]
    simp only [List.mem_cons]
    constructor
    · rintro ((h | h) | h)
      · exact .inl h
      · exact .inr (.inl h.symm)
      · exact .inr (.inr h)
    · rintro (h | h | h)
      · exact .inl (.inl h)
      · exact .inl (.inr h.symm)
      · exact .inr h
theorem rise_mem {xs : List (Option Rat)} {r : Rat} : r ∈ riseR xs ↔ some r ∈ xs := by
  unfold riseR; rw [rise_fold_mem]; simp
theorem rise_len (xs : List (Option Rat)) (acc : List Rat) : (xs.foldl riseS acc).length ≤ acc.length + xs.length := by
  induction xs generalizing acc with
  | nil => simp
  | cons x xs ih =>
    rw [List.foldl_cons]
    have h1 := ih (riseS acc x)
    have h2 := riseS_len acc x
    simp only [List.length_cons]; omega
def RiseF (k : Nat) (f : FM) : Prop := ∀ (xs : List (Option Rat)) (g : Gh), xs.length ≤ 10000 → (∀ x ∈ xs, SzN k x) → f [.lst (xs.map dN)] g = .ok (.lst ((riseR xs).map dR)) g
theorem rise_spec {k : Nat} {h : FM} (hh : HeldF k h) : RiseF k (mFun 1 4 (P_b_rising_numbers h)) := fun xs g hl hx => by
  have key := forL_foldP (tg := gNm 2) (b := P_lp_rising_numbers_3 h) (g := g) dN riseS ([] : List Rat) (fun acc env => ∃ s2 s3, env = [.val (.lst (xs.map dN)), .own (acc.map dR), s2, s3]) xs (fun pre x post hp env hR => by
    obtain ⟨s2, s3, rfl⟩ := hR
    have hacc : ∀ r ∈ pre.foldl riseS [], Sz k r := fun r hr => by
      have := (rise_fold_mem pre [] (r := r)).mp hr
      simp at this
      exact hx _ (by rw [hp]; simp [this]) r rfl
    have hal : (pre.foldl riseS []).length < LIM := by
      have h1 := rise_len pre []
      have h2 : xs.length = pre.length + (post.length + 1) := by rw [hp]; simp
      have h3 : (10000 : Nat) < LIM := by decide
      simp at h1
      omega
    generalize pre.foldl riseS [] = acc at *
    cases x with
    | none =>
      refine ⟨_, rfl, [.val (.lst (xs.map dN)), .own (acc.map dR), .val (dN none), s3], ?_, _, _, rfl⟩
      simp [P_lp_rising_numbers_3, dN]
    | some r =>
      have hr : Sz k r := hx (some r) (by rw [hp]; simp) r rfl
      have fr : frDs (acc.map dR) = true := frDs_map frD_dR acc
      have hid : ∀ s0 s3 : Sl, hidE [s0, .own (acc.map dR), .val (dR r), s3] 1 (acc.map dR) = [hidS s0, .val (.lst (acc.map dR)), .val (dR r), hidS s3] := fun _ _ => rfl
      have nin : cmpop .NotIn (dR r) (.lst (acc.map dR)) [] = .ok (.bl (!decide (r ∈ acc))) [] := by
        show notR (guardR (okD (dR r) 64 && okD (.lst (acc.map dR)) 64) (.bl (memD (dR r) (acc.map dR))) []) = _
        have ok2 : okD (.lst (acc.map dR)) 64 = true := by
          show okDs (acc.map dR) 63 = true
          exact okDs_map (fun x => okD_dR x 62) acc
        rw [okD_dR, ok2, memD_dR]; rfl
      by_cases hm : r ∈ acc
      · refine ⟨_, rfl, [.val (.lst (xs.map dN)), .own (acc.map dR), .val (dR r), s3], ?_, .val (dR r), s3, ?_⟩
        · simp [P_lp_rising_numbers_3, dN, fr, hid, nin, hm]
        · rw [show riseS acc (some r) = acc by simp [riseS, hm]]
      · have lenc : (acc.filter fun a => decide (a < r)).length ≤ LIM := Nat.le_trans (List.length_filter_le _ _) (Nat.le_of_lt hal)
        have c := compL_mapT (tg := gNm 3) (t := P_ct_rising_numbers_2 h) (el := P_ce_rising_numbers_1) (env := [hideS (hidS (.val (.lst (xs.map dN)))), .val (.lst (acc.map dR)), .val (dR r), .un]) (g := []) dR (fun a => decide (a < r)) dR acc (fun a ha => by
          refine ⟨_, rfl, ?_, fun _ => ?_⟩
          · have e := hh a r [] (hacc a ha) hr
            simp [P_ct_rising_numbers_2, permL, e, held_lt]
          · simp [P_ce_rising_numbers_1])
        have j1 : insOk acc.length ((acc.filter fun a => decide (a < r)).length : Int) = true := ins_ok hal (by omega) (by
          have hL : (LIM : Nat) = 100000 := rfl
          omega)
        refine ⟨_, rfl, [.val (.lst (xs.map dN)), .own ((riseS acc (some r)).map dR), .val (dR r), s3], ?_, _, _, rfl⟩
        have e1 : (eBor 1 (eBi oLen (lCons (eNew (lComp (iV (eLv 1)) (gNm 3) (P_ct_rising_numbers_2 h) (P_ce_rising_numbers_1) [3])) (lNil)))) [.val (.lst (xs.map dN)), .own (acc.map dR), .val (dR r), s3] g = .ok (.int (acc.filter fun a => decide (a < r)).length) g := by
          simp only [eBor_ap, List.getElem?_cons_succ, List.getElem?_cons_zero, fr, if_true, hid]
          simp [blkE, wipeE, c, lenc, plD]
        have e2 : riseS acc (some r) = acc.take (acc.filter fun a => decide (a < r)).length ++ [r] ++ acc.drop (acc.filter fun a => decide (a < r)).length := by simp [riseS, hm]
        have hal' : (acc.map dR).length < LIM := by simpa using hal
        unfold P_lp_rising_numbers_3
        generalize (eBor 1 (eBi oLen (lCons (eNew (lComp (iV (eLv 1)) (gNm 3) (P_ct_rising_numbers_2 h) (P_ce_rising_numbers_1) [3])) (lNil)))) = LE at *
        rw [e2]
        simp [dN, fr, hid, nin, hm, sOwnIns, e1, j1]) xs [] [.val (.lst (xs.map dN)), .own [], .un, .un] rfl ⟨_, _, rfl⟩
  obtain ⟨env', e, s2, s3, rfl⟩ := key
  simp only [mFun, P_b_rising_numbers]
  simp [e, endR, riseR]
end GL
/-! GL part 23: the tests of a table, the best test, the tree. -/
namespace GL
open PySem L2
/-! ### plain data -/
theorem okD_dN (x : Option Rat) (n : Nat) : okD (dN x) (n + 1) = true := by cases x <;> rfl
theorem okD_dNs (xs : List (Option Rat)) (n : Nat) : okD (dNs xs) (n + 2) = true := by
  show okDs (xs.map dN) (n + 1) = true
  exact okDs_map (fun x => okD_dN x n) xs
theorem okD_dRow (r : Row) (n : Nat) : okD (dRow r) (n + 3) = true := by
  show okDs [dNs r.1, .int r.2] (n + 2) = true
  simp only [okDs, okD_dNs, okD, Bool.and_self]
theorem okD_dRows (rows : List Row) (n : Nat) : okD (dRows rows) (n + 4) = true := by
  show okDs (rows.map dRow) (n + 3) = true
  exact okDs_map (fun x => okD_dRow x n) rows
theorem ne_nil (rows : List Row) (g : Gh) : cmpop .NotEq (dRows rows) (.lst []) g = .ok (.bl (!rows.isEmpty)) g := by
  rw [ne_ap]
  have e1 : deref g (dRows rows) = dRows rows := rfl
  have e2 : deref g (.lst []) = .lst [] := rfl
  have e3 : eqD (dRows rows) (.lst []) = rows.isEmpty := by cases rows <;> rfl
  rw [e1, e2, okE_ok (okD_dRows rows 60) rfl, e3]; rfl
def lblR (rows : List Row) : List Int := rows.map (·.2)
theorem RowsOk.ls {k n m : Nat} {rows : List Row} (h : RowsOk k n m rows) (hm : m ≤ 1000) : LsOk (lblR rows) := by
  refine ⟨by simp only [lblR, List.length_map]; exact Nat.le_trans h.1 hm, fun l hl => ?_⟩
  obtain ⟨r, hr, rfl⟩ := List.mem_map.mp hl
  exact (h.2 r hr).2
theorem RowsOk.filter {k n m : Nat} {rows : List Row} (h : RowsOk k n m rows) (p : Row → Bool) : RowsOk k n m (rows.filter p) :=
  ⟨Nat.le_trans (List.length_filter_le _ _) h.1, fun r hr => h.2 r (List.mem_filter.mp hr).1⟩
/-! ### leaves -/
def meanR (ls : List Int) : Rat := Rat.divInt ls.sum ls.length
theorem mean_sz {ls : List Int} (h : LsOk ls) (h0 : ls ≠ []) : Sz 30 (meanR ls) := by
  have : (ls.length : Int) ≠ 0 := by
    have : ls.length ≠ 0 := fun e => h0 (List.length_eq_zero_iff.mp e)
    omega
  exact .div this h.sum (h.len.mono (by decide))
def LeafF (m : Nat) (f : FM) : Prop := ∀ (rows : List Row) (k n : Nat) (g : Gh), RowsOk k n m rows → rows ≠ [] → f [dRows rows] g = .ok (.tup [.str "leaf", dR (meanR (lblR rows))]) g
theorem leaf_spec {K m : Nat} {lw lb : FM} (hl : LowF K lw) (hb : LabF lb) (hK : 30 ≤ K) (hm : m ≤ 1000) : LeafF m (mFun 1 2 (P_b_leaf_of lw lb)) := fun rows k n g h h0 => by
  have ho := h.ls hm
  have e1 := hb rows g (Nat.le_trans h.1 (Nat.le_trans hm (by decide)))
  have hn : lblR rows ≠ [] := fun e => h0 (List.map_eq_nil_iff.mp e)
  have hn' : ((lblR rows).length : Int) ≠ 0 := by
    have : (lblR rows).length ≠ 0 := fun e => hn (List.length_eq_zero_iff.mp e)
    omega
  have e2 := hl _ _ g hn' (ho.sum.mono hK) (ho.len.mono (by omega))
  change lb [dRows rows] g = .ok (.lst ((lblR rows).map D.int)) g at e1
  have e3 := oSum_map (lblR rows) g
  generalize lblR rows = ls at *
  simp [mFun, P_b_leaf_of, permL, e1, e2, lim2, endR, meanR, asInts_map, oSum]
/-! ### tests -/
abbrev Tst := Rat × Nat × Rat
def dTst (t : Tst) : D := .tup [dR t.1, .int t.2.1, dR t.2.2]
def yesR (c : Nat) (cut : Rat) (rows : List Row) : List Row := rows.filter fun r => isYes c cut r.1
def noR (c : Nat) (cut : Rat) (rows : List Row) : List Row := rows.filter fun r => !isYes c cut r.1
def testS (rows : List Row) (c : Nat) (acc : List Tst) (cut : Rat) : List Tst :=
  if noR c cut rows = [] then acc else acc ++ [(spreadR (lblR (yesR c cut rows)) + spreadR (lblR (noR c cut rows)), c, cut)]
def colR (c : Nat) (rows : List Row) : List (Option Rat) := rows.map fun r => r.1[c]?.getD none
def testC (rows : List Row) (acc : List Tst) (c : Nat) : List Tst := (riseR (colR c rows)).foldl (testS rows c) acc
def testsR (n : Nat) (rows : List Row) : List Tst := (List.range n).foldl (testC rows) []
theorem testS_len (rows : List Row) (c : Nat) (acc : List Tst) (cuts : List Rat) : (cuts.foldl (testS rows c) acc).length ≤ acc.length + cuts.length := by
  induction cuts generalizing acc with
  | nil => simp
  | cons x xs ih =>
    rw [List.foldl_cons]
    have h1 := ih (testS rows c acc x)
    have h2 : (testS rows c acc x).length ≤ acc.length + 1 := by
      unfold testS; split <;> simp
    simp only [List.length_cons]; omega
theorem rise_len' (xs : List (Option Rat)) : (riseR xs).length ≤ xs.length := by
  have := rise_len xs []
  unfold riseR; simpa using this
theorem testC_len (rows : List Row) (cs : List Nat) (acc : List Tst) : (cs.foldl (testC rows) acc).length ≤ acc.length + cs.length * rows.length := by
  induction cs generalizing acc with
  | nil => simp
  | cons x xs ih =>
    rw [List.foldl_cons]
    have h1 := ih (testC rows acc x)
    have h2 := testS_len rows x acc (riseR (colR x rows))
    have h3 := rise_len' (colR x rows)
    have h4 : (colR x rows).length = rows.length := by simp [colR]
    have h5 : (testC rows acc x).length ≤ acc.length + rows.length := by unfold testC; omega
    simp only [List.length_cons, Nat.add_mul, Nat.one_mul]; omega
def PlusF (k : Nat) (f : FM) : Prop := ∀ (r s : Rat) (g : Gh), Sz k r → Sz k s → f [.str "plus", dR r, dR s] g = .ok (dR (r + s)) g
def TestsF (k m : Nat) (f : FM) : Prop := ∀ (rows : List Row) (n : Nat) (g : Gh), RowsOk k n m rows → rows ≠ [] → n ≤ 100 → f [dRows rows] g = .ok (.lst ((testsR n rows).map dTst)) g
theorem col_ok {k n m c : Nat} {rows : List Row} (h : RowsOk k n m rows) (hc : c < n) : ∀ x ∈ colR c rows, SzN k x := fun x hx => by
  obtain ⟨r, hr, rfl⟩ := List.mem_map.mp hx
  have h1 := (h.2 r hr).1
  have : c < r.1.length := by rw [h1.1]; exact hc
  have e : r.1[c]?.getD none = r.1[c] := by simp [this]
  rw [e]
  exact h1.2 _ (List.getElem_mem this)
theorem tests_spec {k m : Nat} {wk sp lb pt rs : FM} (hw : PlusF 71 wk) (hs : SpreadF sp) (hl : LabF lb) (hp : PartF k m pt) (hr : RiseF k rs) (hm : m ≤ 100) : TestsF k m (mFun 1 9 (P_b_tests_of wk sp lb pt rs)) := fun rows n g ho hne hn => by
  have hrl : rows.length ≤ 100 := Nat.le_trans ho.1 hm
  have hlim : (20000 : Nat) < LIM := by decide
  have inner : ∀ c, c < n → ∀ (acc : List Tst) (s3 s4 s5 s6 s7 s8 : Sl), acc.length ≤ 10000 → ∃ y3 y4 y5 y6, forL none (gNm 3) (P_lp_tests_of_2 wk sp lb pt) ((riseR (colR c rows)).map dR) [.val (dRows rows), .own (acc.map dTst), .val (.int c), s3, s4, s5, s6, s7, s8] g = .nx [.val (dRows rows), .own ((testC rows acc c).map dTst), .val (.int c), y3, y4, y5, y6, s7, s8] g := fun c hc acc s3 s4 s5 s6 s7 s8 ha => by
    obtain ⟨env', e, x3, x4, x5, x6, rfl⟩ := forL_foldP (tg := gNm 3) (b := P_lp_tests_of_2 wk sp lb pt) (g := g) dR (testS rows c) acc (fun acc env => ∃ s3 s4 s5 s6, env = [.val (dRows rows), .own (acc.map dTst), .val (.int c), s3, s4, s5, s6, s7, s8]) (riseR (colR c rows)) (fun pre cut post hpp env hR => by
      obtain ⟨s3, s4, s5, s6, rfl⟩ := hR
      have hcut : Sz k cut := by
        have : cut ∈ riseR (colR c rows) := by rw [hpp]; simp
        exact col_ok ho hc _ (rise_mem.mp this) cut rfl
      have hlen : (pre.foldl (testS rows c) acc).length < LIM := by
        have h1 := testS_len rows c acc pre
        have h2 := rise_len' (colR c rows)
        have h3 : (colR c rows).length = rows.length := by simp [colR]
        rw [hpp] at h2
        simp at h2
        omega
      generalize pre.foldl (testS rows c) acc = ac at *
      have e1 := hp rows n c cut g ho hc hcut
      change pt [dRows rows, .int c, dR cut] g = .ok (.tup [dRows (yesR c cut rows), dRows (noR c cut rows)]) g at e1
      have oy : RowsOk k n m (yesR c cut rows) := ho.filter _
      have on : RowsOk k n m (noR c cut rows) := ho.filter _
      have ly := hl (yesR c cut rows) g (Nat.le_trans oy.1 (Nat.le_trans hm (by decide)))
      have ln := hl (noR c cut rows) g (Nat.le_trans on.1 (Nat.le_trans hm (by decide)))
      change lb [dRows (yesR c cut rows)] g = .ok (.lst ((lblR (yesR c cut rows)).map D.int)) g at ly
      change lb [dRows (noR c cut rows)] g = .ok (.lst ((lblR (noR c cut rows)).map D.int)) g at ln
      have lsy := oy.ls (Nat.le_trans hm (by decide))
      have lsn := on.ls (Nat.le_trans hm (by decide))
      have sy := hs _ g lsy
      have sn := hs _ g lsn
      have pl := hw _ _ g (spread_sz lsy) (spread_sz lsn)
      have nn := ne_nil (noR c cut rows) g
      by_cases h0 : noR c cut rows = []
      · refine ⟨_, rfl, [.val (dRows rows), .own (ac.map dTst), .val (.int c), .val (dR cut), .val (dRows (yesR c cut rows)), .val (dRows (noR c cut rows)), s6, s7, s8], ?_, .val (dR cut), .val (dRows (yesR c cut rows)), .val (dRows (noR c cut rows)), s6, ?_⟩
        · rw [h0] at nn e1 ⊢
          simp [P_lp_tests_of_2, permL, e1, nn]
        · rw [show testS rows c ac cut = ac by simp [testS, h0]]
      · have hb : (noR c cut rows).isEmpty = false := by
          cases hq : noR c cut rows with
          | nil => exact absurd hq h0
          | cons _ _ => rfl
        rw [hb] at nn
        refine ⟨_, rfl, [.val (dRows rows), .own ((ac ++ [(spreadR (lblR (yesR c cut rows)) + spreadR (lblR (noR c cut rows)), c, cut)]).map dTst), .val (.int c), .val (dR cut), .val (dRows (yesR c cut rows)), .val (dRows (noR c cut rows)), .val (dR (spreadR (lblR (yesR c cut rows)) + spreadR (lblR (noR c cut rows)))), s7, s8], ?_, .val (dR cut), .val (dRows (yesR c cut rows)), .val (dRows (noR c cut rows)), .val (dR (spreadR (lblR (yesR c cut rows)) + spreadR (lblR (noR c cut rows)))), ?_⟩
        · generalize lblR (yesR c cut rows) = lA at *
          generalize lblR (noR c cut rows) = lB at *
          simp [P_lp_tests_of_2, permL, e1, nn, ly, ln, sy, sn, pl, hlen, lim3, dTst]
        · rw [show testS rows c ac cut = ac ++ [(spreadR (lblR (yesR c cut rows)) + spreadR (lblR (noR c cut rows)), c, cut)] by simp [testS, h0]]) (riseR (colR c rows)) [] _ rfl ⟨s3, s4, s5, s6, rfl⟩
    exact ⟨x3, x4, x5, x6, e⟩
  have colE : ∀ c, c < n → ∀ (s1 s3 s4 s5 s6 s7 s8 : Sl), eNew (lComp (iV (eLv 0)) (gTp 2 (gsCons (gNm 7) (gsCons (gNm 8) (gsNil)))) (tTrue) (P_ce_tests_of_1) [7, 8]) [.val (dRows rows), s1, .val (.int c), s3, s4, s5, s6, s7, s8] g = .ok (.lst ((colR c rows).map dN)) g := fun c hc s1 s3 s4 s5 s6 s7 s8 => by
    have e1 := compL_mapT (tg := gTp 2 (gsCons (gNm 7) (gsCons (gNm 8) gsNil))) (t := tTrue) (el := P_ce_tests_of_1) (env := [.val (dRows rows), hideS s1, .val (.int c), hideS s3, hideS s4, hideS s5, hideS s6, .un, .un]) (g := g) dRow (fun _ => true) (fun r => dN (r.1[c]?.getD none)) rows (fun r hr' => by
      refine ⟨[.val (dRows rows), hideS s1, .val (.int c), hideS s3, hideS s4, hideS s5, hideS s6, .val (dNs r.1), .val (.int r.2)], by simp [dRow], rfl, fun _ => ?_⟩
      have hc' : c < r.1.length := by rw [(ho.2 r hr').1.1]; exact hc
      have e1 : atI (r.1.map dN) (c : Int) = some (dN r.1[c]) := by rw [atI_nat (by simpa using hc')]; simp
      simp [P_ce_tests_of_1, dNs, e1, hc'])
    have ef : rows.filter (fun _ => true) = rows := by simp
    rw [ef] at e1
    simp only [dRows] at e1
    have hl' : rows.length ≤ LIM := by omega
    simp [dRows, blkE, wipeE, e1, hl', colR]
  have a00 : eBi oLen (lCons (eSub (eSub (eLv 0) (eC (.int 0))) (eC (.int 0))) (lNil)) [.val (dRows rows), .own [], .un, .un, .un, .un, .un, .un, .un] g = .ok (.int n) g := by
    cases rows with
    | nil => exact absurd rfl hne
    | cons r rows =>
      have e1 : atI (dRow r :: rows.map dRow) 0 = some (dRow r) := atI0
      have e1' : eSub (eSub (eLv 0) (eC (.int 0))) (eC (.int 0)) [.val (dRows (r :: rows)), .own [], .un, .un, .un, .un, .un, .un, .un] g = .ok (dNs r.1) g := by
        simp [dRows, e1]; simp [dRow]; rfl
      have e2 : atI [dNs r.1, D.int r.2] 0 = some (dNs r.1) := rfl
      have e3 : r.1.length = n := (ho.2 r List.mem_cons_self).1.1
      simp only [eBi_ap, lCons_ap, e1', lNil_ap, R.bind_ok]
      simp [dNs, e3]
  obtain ⟨env', e, x2, x3, x4, x5, x6, x7, x8, rfl⟩ := forL_foldP (tg := gNm 2) (b := P_lp_tests_of_3 wk sp lb pt rs) (g := g) (fun i : Nat => D.int (0 + i)) (testC rows) ([] : List Tst) (fun acc env => ∃ s2 s3 s4 s5 s6 s7 s8, env = [.val (dRows rows), .own (acc.map dTst), s2, s3, s4, s5, s6, s7, s8]) (List.range n) (fun pre c post hpp env hR => by
    obtain ⟨s2, s3, s4, s5, s6, s7, s8, rfl⟩ := hR
    have hc : c < n := by
      have : c ∈ List.range n := by rw [hpp]; simp
      exact List.mem_range.mp this
    have hlen : (pre.foldl (testC rows) []).length ≤ 10000 := by
      have h1 := testC_len rows pre []
      have h2 : pre.length ≤ 100 := by
        have : (List.range n).length = pre.length + (post.length + 1) := by rw [hpp]; simp
        simp at this; omega
      have h3 : pre.length * rows.length ≤ 100 * 100 := Nat.mul_le_mul h2 hrl
      simp at h1
      omega
    generalize pre.foldl (testC rows) [] = acc at *
    obtain ⟨y3, y4, y5, y6, e⟩ := inner c hc acc s3 s4 s5 s6 s7 s8 hlen
    refine ⟨_, rfl, [.val (dRows rows), .own ((testC rows acc c).map dTst), .val (.int c), y3, y4, y5, y6, s7, s8], ?_, .val (.int c), y3, y4, y5, y6, s7, s8, rfl⟩
    have e1 := colE c hc (.own (acc.map dTst)) s3 s4 s5 s6 s7 s8
    have e2 := hr (colR c rows) g (by simp [colR]; omega) (col_ok ho hc)
    unfold P_lp_tests_of_3
    generalize eNew (lComp (iV (eLv 0)) (gTp 2 (gsCons (gNm 7) (gsCons (gNm 8) (gsNil)))) (tTrue) (P_ce_tests_of_1) [7, 8]) = CE at *
    simp [permL, e1, e2, e]) (List.range n) [] [.val (dRows rows), .own [], .un, .un, .un, .un, .un, .un, .un] rfl ⟨_, _, _, _, _, _, _, rfl⟩
  have e' : forL none (gNm 2) (P_lp_tests_of_3 wk sp lb pt rs) (rangeD 0 n) [.val (dRows rows), .own [], .un, .un, .un, .un, .un, .un, .un] g = _ := e
  have rn : rngOk (n : Int) = true := rng_nat (by omega)
  unfold P_b_tests_of mFun
  generalize eBi oLen (lCons (eSub (eSub (eLv 0) (eC (.int 0))) (eC (.int 0))) (lNil)) = LE at *
  simp [a00, rn, e', endR, testsR]
end GL
/-! GL part 24: the best test, the tree, its answers. -/
namespace GL
open PySem L2
/-! ### what stands among the tests -/
def TstOk (k n : Nat) (rows : List Row) (t : Tst) : Prop := t.2.1 < n ∧ some t.2.2 ∈ colR t.2.1 rows ∧ noR t.2.1 t.2.2 rows ≠ [] ∧ t.1 = spreadR (lblR (yesR t.2.1 t.2.2 rows)) + spreadR (lblR (noR t.2.1 t.2.2 rows))
theorem testS_all {P : Tst → Prop} {rows : List Row} {c : Nat} : ∀ (cuts : List Rat) (acc : List Tst), (∀ t ∈ acc, P t) → (∀ cut ∈ cuts, noR c cut rows ≠ [] → P (spreadR (lblR (yesR c cut rows)) + spreadR (lblR (noR c cut rows)), c, cut)) → ∀ t ∈ cuts.foldl (testS rows c) acc, P t
  | [], acc, h, _ => h
  | x :: xs, acc, h, hp => by
    rw [List.foldl_cons]
    refine testS_all xs _ (fun t ht => ?_) (fun cut hc => hp cut (List.mem_cons_of_mem _ hc))
    unfold testS at ht
    split at ht
    · exact h t ht
    · rename_i hn
      rcases List.mem_append.mp ht with ht | ht
      · exact h t ht
      · simp at ht; subst ht; exact hp x List.mem_cons_self hn
theorem testC_all {P : Tst → Prop} {rows : List Row} : ∀ (cs : List Nat) (acc : List Tst), (∀ t ∈ acc, P t) → (∀ c ∈ cs, ∀ cut, some cut ∈ colR c rows → noR c cut rows ≠ [] → P (spreadR (lblR (yesR c cut rows)) + spreadR (lblR (noR c cut rows)), c, cut)) → ∀ t ∈ cs.foldl (testC rows) acc, P t
  | [], acc, h, _ => h
  | c :: cs, acc, h, hp => by
    rw [List.foldl_cons]
    refine testC_all cs _ (fun t ht => ?_) (fun c' hc => hp c' (List.mem_cons_of_mem _ hc))
    exact testS_all _ acc h (fun cut hcut hn => hp c List.mem_cons_self cut (rise_mem.mp hcut) hn) t ht
theorem tests_ok {n : Nat} {rows : List Row} {k : Nat} : ∀ t ∈ testsR n rows, TstOk k n rows t := by
  refine testC_all _ _ (fun _ h => nomatch h) fun c hc cut hcut hn => ⟨List.mem_range.mp hc, hcut, hn, rfl⟩
theorem yes_ne {c : Nat} {cut : Rat} {rows : List Row} (h : some cut ∈ colR c rows) : yesR c cut rows ≠ [] := by
  obtain ⟨r, hr, e⟩ := List.mem_map.mp h
  intro e2
  have : r ∈ yesR c cut rows := by
    refine List.mem_filter.mpr ⟨hr, ?_⟩
    unfold isYes
    cases q : r.1[c]? with
    | none => rw [q] at e; cases e
    | some x =>
      rw [q] at e
      have e : x = some cut := e
      subst e
      simp [Rat.le_refl]
  rw [e2] at this
  cases this
/-! ### the best test -/
def bestS (b : Option (Nat × Rat) × Rat) (t : Tst) : Option (Nat × Rat) × Rat := if t.1 < b.2 then (some t.2, t.1) else b
def bestR (n : Nat) (rows : List Row) : Option (Nat × Rat) := ((testsR n rows).foldl bestS (none, spreadR (lblR rows))).1
def dB : Option (Nat × Rat) → D
  | none => .non
  | some p => .tup [.int p.1, dR p.2]
theorem bestS_all {P : Nat × Rat → Prop} : ∀ (ts : List Tst) (b : Option (Nat × Rat) × Rat), (∀ p, b.1 = some p → P p) → (∀ t ∈ ts, P t.2) → ∀ p, (ts.foldl bestS b).1 = some p → P p
  | [], b, h, _ => h
  | t :: ts, b, h, hp => by
    rw [List.foldl_cons]
    refine bestS_all ts _ (fun p hq => ?_) (fun t' ht => hp t' (List.mem_cons_of_mem _ ht))
    unfold bestS at hq
    split at hq
    · cases hq; exact hp t List.mem_cons_self
    · exact h p hq
theorem best_some {k n m : Nat} {rows : List Row} (ho : RowsOk k n m rows) {p : Nat × Rat} (h : bestR n rows = some p) : p.1 < n ∧ Sz k p.2 ∧ yesR p.1 p.2 rows ≠ [] ∧ noR p.1 p.2 rows ≠ [] := by
  refine bestS_all (P := fun p => p.1 < n ∧ Sz k p.2 ∧ yesR p.1 p.2 rows ≠ [] ∧ noR p.1 p.2 rows ≠ []) _ _ (fun _ e => by cases e) (fun t ht => ?_) p h
  obtain ⟨h1, h2, h3, _⟩ := tests_ok (k := k) t ht
  exact ⟨h1, col_ok ho h1 _ h2 _ rfl, yes_ne h2, h3⟩
def BestF (k m : Nat) (f : FM) : Prop := ∀ (rows : List Row) (n : Nat) (g : Gh), RowsOk k n m rows → rows ≠ [] → n ≤ 100 → f [dRows rows] g = .ok (dB (bestR n rows)) g
theorem best_spec {k m : Nat} {hd sp lb ts : FM} (hh : HeldF 143 hd) (hs : SpreadF sp) (hl : LabF lb) (ht : TestsF k m ts) (hm : m ≤ 100) : BestF k m (mFun 1 6 (P_b_best_test hd sp lb ts)) := fun rows n g ho hne hn => by
  have lo := ho.ls (Nat.le_trans hm (by decide))
  have e1 := hl rows g (Nat.le_trans ho.1 (Nat.le_trans hm (by decide)))
  change lb [dRows rows] g = .ok (.lst ((lblR rows).map D.int)) g at e1
  have e2 := hs _ g lo
  have e3 := ht rows n g ho hne hn
  have sz : ∀ t ∈ testsR n rows, Sz 143 t.1 := fun t h => by
    obtain ⟨_, _, _, h4⟩ := tests_ok (k := k) t h
    rw [h4]
    exact (spread_sz ((ho.filter _).ls (Nat.le_trans hm (by decide)))).add (spread_sz ((ho.filter _).ls (Nat.le_trans hm (by decide))))
  obtain ⟨env', e, ⟨s3, s4, s5, rfl⟩, _⟩ := forL_fold (tg := gTp 3 (gsCons (gNm 3) (gsCons (gNm 4) (gsCons (gNm 5) (gsNil))))) (b := P_lp_best_test_1 hd) (g := g) dTst bestS (fun b env => (∃ s3 s4 s5, env = [.val (dRows rows), .val (dB b.1), .val (dR b.2), s3, s4, s5]) ∧ Sz 143 b.2) (testsR n rows) (none, spreadR (lblR rows)) [.val (dRows rows), .val (dB none), .val (dR (spreadR (lblR rows))), .un, .un, .un] (by
    rintro t htm b env ⟨⟨s3, s4, s5, rfl⟩, hb⟩
    have hz := sz t htm
    have e := hh t.1 b.2 g hz hb
    have elt := held_lt (r := t.1) (s := b.2)
    refine ⟨[.val (dRows rows), .val (dB b.1), .val (dR b.2), .val (dR t.1), .val (.int t.2.1), .val (dR t.2.2)], by simp [dTst], ?_⟩
    by_cases hlt : t.1 < b.2
    · have hd0 : heldR t.1 b.2 < 0 := by rw [decide_eq_true hlt] at elt; exact of_decide_eq_true elt
      refine ⟨[.val (dRows rows), .val (dB (some t.2)), .val (dR t.1), .val (dR t.1), .val (.int t.2.1), .val (dR t.2.2)], ?_, ?_⟩
      · simp [P_lp_best_test_1, permL, e, hd0, lim2, dB]
      · rw [show bestS b t = (some t.2, t.1) by simp [bestS, hlt]]
        exact ⟨⟨_, _, _, rfl⟩, hz⟩
    · have hd0 : ¬ heldR t.1 b.2 < 0 := by rw [decide_eq_false hlt] at elt; exact of_decide_eq_false elt
      refine ⟨[.val (dRows rows), .val (dB b.1), .val (dR b.2), .val (dR t.1), .val (.int t.2.1), .val (dR t.2.2)], ?_, ?_⟩
      · simp [P_lp_best_test_1, permL, e, hd0]
      · rw [show bestS b t = b by simp [bestS, hlt]]
        exact ⟨⟨_, _, _, rfl⟩, hb⟩) ⟨⟨_, _, _, rfl⟩, (spread_sz lo).mono (by decide)⟩
  have d0 : dB none = .non := rfl
  rw [d0] at e
  unfold bestR
  generalize lblR rows = ls at *
  simp only [mFun, P_b_best_test]
  simp [permL, e1, e2, e3, e, endR]
/-! ### trees -/
inductive Tr where
  | leaf (r : Rat) | test (c : Nat) (cut : Rat) (y z : Tr)
def dT : Tr → D
  | .leaf r => .tup [.str "leaf", dR r]
  | .test c cut y z => .tup [.str "test", .int c, dR cut, dT y, dT z]
def treeR (n : Nat) : Nat → List Row → Tr
  | 0, rows => .leaf (meanR (lblR rows))
  | d + 1, rows => match bestR n rows with
    | none => .leaf (meanR (lblR rows))
    | some p => .test p.1 p.2 (treeR n d (yesR p.1 p.2 rows)) (treeR n d (noR p.1 p.2 rows))
def TreeF (k m d : Nat) (f : FM) : Prop := ∀ (rows : List Row) (n : Nat) (g : Gh), RowsOk k n m rows → rows ≠ [] → n ≤ 100 → f [dRows rows, .int d] g = .ok (dT (treeR n d rows)) g
theorem tree_0 {k m : Nat} {lf pt bt tr : FM} (hl : LeafF m lf) : TreeF k m 0 (mFun 2 7 (P_b_tree_of lf pt bt tr)) := fun rows n g ho hne hn => by
  have e1 := hl rows k n g ho hne
  simp [mFun, P_b_tree_of, permL, e1, endR, treeR, dT]
theorem tree_s {k m d : Nat} {lf pt bt tr : FM} (hl : LeafF m lf) (hp : PartF k m pt) (hb : BestF k m bt) (ht : TreeF k m d tr) : TreeF k m (d + 1) (mFun 2 7 (P_b_tree_of lf pt bt tr)) := fun rows n g ho hne hn => by
  have e1 := hl rows k n g ho hne
  have e2 := hb rows n g ho hne hn
  have h1 : (0 : Int) < (d : Int) + 1 := by omega
  cases hq : bestR n rows with
  | none =>
    rw [hq] at e2
    simp only [dB] at e2
    simp [mFun, P_b_tree_of, permL, e1, e2, h1, endR, treeR, dT, hq]
  | some p =>
    rw [hq] at e2
    simp only [dB] at e2
    obtain ⟨p1, p2, p3, p4⟩ := best_some ho hq
    have e3 := hp rows n p.1 p.2 g ho p1 p2
    change pt [dRows rows, .int p.1, dR p.2] g = .ok (.tup [dRows (yesR p.1 p.2 rows), dRows (noR p.1 p.2 rows)]) g at e3
    have e4 := ht (yesR p.1 p.2 rows) n g (ho.filter _) p3 hn
    have e5 := ht (noR p.1 p.2 rows) n g (ho.filter _) p4 hn
    have hd : (d : Int) + 1 - 1 = d := by omega
    simp [mFun, P_b_tree_of, permL, e2, h1, e3, hd, e4, e5, lim5, endR, treeR, dT, hq]
/-- all tests below n, the parts of less than k bits, no deeper than d -/
def TrOk (k n : Nat) : Nat → Tr → Prop
  | _, .leaf r => Sz k r
  | 0, .test _ _ _ _ => False
  | d + 1, .test c cut y z => c < n ∧ Sz k cut ∧ TrOk k n d y ∧ TrOk k n d z
theorem tree_ok {k n m : Nat} (hk : 30 ≤ k) (hm : m ≤ 100) : ∀ (d : Nat) (rows : List Row), RowsOk k n m rows → rows ≠ [] → TrOk k n d (treeR n d rows)
  | 0, rows, ho, hne => (mean_sz (ho.ls (Nat.le_trans hm (by decide))) (fun e => hne (List.map_eq_nil_iff.mp e))).mono hk
  | d + 1, rows, ho, hne => by
    unfold treeR
    cases hq : bestR n rows with
    | none => exact (mean_sz (ho.ls (Nat.le_trans hm (by decide))) (fun e => hne (List.map_eq_nil_iff.mp e))).mono hk
    | some p =>
      obtain ⟨p1, p2, p3, p4⟩ := best_some ho hq
      exact ⟨p1, p2, tree_ok hk hm d _ (ho.filter _) p3, tree_ok hk hm d _ (ho.filter _) p4⟩
/-! ### answers -/
def ansR : Tr → List (Option Rat) → Rat
  | .leaf r, _ => r
  | .test c cut y z, xs => if isYes c cut xs then ansR y xs else ansR z xs
def hdT : Tr → D
  | .leaf _ => .str "leaf"
  | .test _ _ _ _ => .str "test"
def tlT : Tr → List D
  | .leaf r => [dR r]
  | .test c cut y z => [.int c, dR cut, dT y, dT z]
theorem dT_eq (t : Tr) : dT t = .tup (hdT t :: tlT t) := by cases t <;> rfl
theorem star_T {t : Tr} {a b : MG} {env : Env'} : gSt 1 2 (gsCons a (gsCons b gsNil)) (dT t) env = (a (hdT t) env).bind fun e => (b (.lst (tlT t)) e).bind fun e => some e := by
  cases t <;> rfl
def AnsF (k : Nat) (f : FM) : Prop := ∀ (t : Tr) (d n : Nat) (xs : List (Option Rat)) (g : Gh), TrOk k n d t → NsOk k n xs → f [dT t, dNs xs] g = .ok (dR (ansR t xs)) g
theorem ans_loop {k : Nat} {y : FM} (hy : YesF k y) {n : Nat} {xs : List (Option Rat)} (hx : NsOk k n xs) {g : Gh} : ∀ (d : Nat) (t : Tr) (s0 s4 s5 s6 s7 : Sl), TrOk k n d t →
    ∃ s2 s4' s5' s6' s7', sWhile P_wt_answer_of_2 (P_wl_answer_of_1 y) [s0, .val (dNs xs), .val (hdT t), .val (.lst (tlT t)), s4, s5, s6, s7] g = .nx [s0, .val (dNs xs), s2, .val (.lst [dR (ansR t xs)]), s4', s5', s6', s7'] g := by
  have base : ∀ (r : Rat) (s0 s4 s5 s6 s7 : Sl), ∃ s2 s4' s5' s6' s7', sWhile P_wt_answer_of_2 (P_wl_answer_of_1 y) [s0, .val (dNs xs), .val (hdT (.leaf r)), .val (.lst (tlT (.leaf r))), s4, s5, s6, s7] g = .nx [s0, .val (dNs xs), s2, .val (.lst [dR r]), s4', s5', s6', s7'] g := fun r s0 s4 s5 s6 s7 => by
    refine ⟨.val (.str "leaf"), s4, s5, s6, s7, ?_⟩
    have ne : ∀ g : Gh, cmpop .Eq (.str "leaf") (.str "test") g = .ok (.bl false) g := fun g => eqS_no (by decide +kernel)
    rw [sWhile_eq]
    simp [P_wt_answer_of_2, hdT, tlT, ne]
  intro d
  induction d with
  | zero =>
    intro t s0 s4 s5 s6 s7 ht
    cases t with
    | leaf r => exact base r s0 s4 s5 s6 s7
    | test c cut y z => exact ht.elim
  | succ d ih =>
    intro t s0 s4 s5 s6 s7 ht
    cases t with
    | leaf r => exact base r s0 s4 s5 s6 s7
    | test c cut ty tz =>
      obtain ⟨h1, h2, h3, h4⟩ := ht
      have e1 := hy xs n c cut g hx h1 h2
      have tt : P_wt_answer_of_2 [s0, .val (dNs xs), .val (hdT (.test c cut ty tz)), .val (.lst (tlT (.test c cut ty tz))), s4, s5, s6, s7] g = .ok true g := by
        simp [P_wt_answer_of_2, hdT]
      have bb : P_wl_answer_of_1 y [s0, .val (dNs xs), .val (hdT (.test c cut ty tz)), .val (.lst (tlT (.test c cut ty tz))), s4, s5, s6, s7] g = .nx [s0, .val (dNs xs), .val (hdT (if isYes c cut xs then ty else tz)), .val (.lst (tlT (if isYes c cut xs then ty else tz))), .val (.int c), .val (dR cut), .val (dT ty), .val (dT tz)] g := by
        by_cases hq : isYes c cut xs = true
        · rw [hq] at e1
          simp [P_wl_answer_of_1, tlT, permL, e1, star_T, hq]
        · have hq : isYes c cut xs = false := by simpa using hq
          rw [hq] at e1
          simp [P_wl_answer_of_1, tlT, permL, e1, star_T, hq]
      have st : sWhile P_wt_answer_of_2 (P_wl_answer_of_1 y) [s0, .val (dNs xs), .val (hdT (.test c cut ty tz)), .val (.lst (tlT (.test c cut ty tz))), s4, s5, s6, s7] g = sWhile P_wt_answer_of_2 (P_wl_answer_of_1 y) [s0, .val (dNs xs), .val (hdT (if isYes c cut xs then ty else tz)), .val (.lst (tlT (if isYes c cut xs then ty else tz))), .val (.int c), .val (dR cut), .val (dT ty), .val (dT tz)] g := by
        conv => lhs; rw [sWhile_eq]
        rw [tt]
        show (match P_wl_answer_of_1 y [s0, .val (dNs xs), .val (hdT (.test c cut ty tz)), .val (.lst (tlT (.test c cut ty tz))), s4, s5, s6, s7] g with | .nx env' g2 => _ | .ct env' g2 => _ | .bk env' g2 => _ | r => _) = _
        rw [bb]
      rw [st]
      by_cases hq : isYes c cut xs = true
      · simp only [hq, if_true, ansR]
        exact ih ty s0 (.val (.int c)) (.val (dR cut)) (.val (dT ty)) (.val (dT tz)) h3
      · have hq : isYes c cut xs = false := by simpa using hq
        simp only [hq, ansR]
        exact ih tz s0 (.val (.int c)) (.val (dR cut)) (.val (dT ty)) (.val (dT tz)) h4
theorem ans_spec {k : Nat} {y : FM} (hy : YesF k y) : AnsF k (mFun 2 8 (P_b_answer_of y)) := fun t d n xs g ht hx => by
  obtain ⟨s2, s4, s5, s6, s7, e⟩ := ans_loop hy hx (g := g) d t (.val (dT t)) .un .un .un .un ht
  have a0 : ∀ x : D, atI [x] 0 = some x := fun _ => rfl
  simp [mFun, P_b_answer_of, star_T, e, a0, endR]
end GL
/-! GL part 25: the laws' own numbers and rows (trees, drifts). -/
namespace GL
open PySem L2
noncomputable def P_wl__law_ratio_1 : MS := sPar 2 3 (lCons (eLv 3) (lCons (eBin .Mod (eLv 2) (eLv 3)) (lNil)))
noncomputable def P_wt__law_ratio_2 : MT := tV (eCmp .NotEq (eLv 3) (eC (.int 0)))
noncomputable def P_b__law_ratio : MS := sSeq (sPar 2 3 (lCons (eBi oAbs (lCons (eLv 0) (lNil))) (lCons (eLv 1) (lNil)))) (sSeq (sWhile (P_wt__law_ratio_2) (P_wl__law_ratio_1)) (sRet (eTup (lCons (eBin .FloorDiv (eLv 0) (eLv 2)) (lCons (eBin .FloorDiv (eLv 1) (eLv 2)) (lNil))))))
noncomputable def P_b__law_less : MS := sRet (eCmp .Lt (eBin .Mult (eSub (eLv 0) (eC (.int 0))) (eSub (eLv 1) (eC (.int 1)))) (eBin .Mult (eSub (eLv 1) (eC (.int 0))) (eSub (eLv 0) (eC (.int 1)))))
noncomputable def P_b__law_number (c__law_take : FM) (c__law_ratio : FM) : MS := sSeq (sSet 1 (eCall c__law_take 2 0 [0, 1] [] (lCons (eLv 0) (lCons (eC (.int 8)) (lNil))) (lNil))) (sSeq (sIf (tV (eCmp .Eq (eLv 1) (eC (.int 0)))) (sRet (eC .non)) (sSkip)) (sSeq (sIf (tV (eCmp .Lt (eLv 1) (eC (.int 5)))) (sRet (eSub (eNew (fLst (lCons (eTup (lCons (eC (.int 0)) (lCons (eC (.int 1)) (lNil)))) (lCons (eTup (lCons (eC (.int 1)) (lCons (eC (.int 1)) (lNil)))) (lCons (eTup (lCons (eNeg (eC (.int 1))) (lCons (eC (.int 1)) (lNil)))) (lCons (eTup (lCons (eC (.int 1)) (lCons (eC (.int 2)) (lNil)))) (lCons (eTup (lCons (eC (.int 3)) (lCons (eC (.int 2)) (lNil)))) (lCons (eTup (lCons (eNeg (eC (.int 2))) (lCons (eC (.int 1)) (lNil)))) (lCons (eTup (lCons (eC (.int 2)) (lCons (eC (.int 1)) (lNil)))) (lNil)))))))))) (eCall c__law_take 2 0 [0, 1] [] (lCons (eLv 0) (lCons (eC (.int 7)) (lNil))) (lNil)))) (sSkip)) (sRet (eCall c__law_ratio 2 0 [0, 1] [] (lCons (eBin .Sub (eCall c__law_take 2 0 [0, 1] [] (lCons (eLv 0) (lCons (eSub (eNew (fLst (lCons (eC (.int 21)) (lCons (eC (.int 2001)) (lCons (eBin .Add (eBin .Mult (eC (.int 2)) (eBin .Pow (eC (.int 10)) (eC (.int 6)))) (eC (.int 1))) (lNil)))))) (eBin .Sub (eLv 1) (eC (.int 5)))) (lNil))) (lNil)) (eSub (eNew (fLst (lCons (eC (.int 10)) (lCons (eC (.int 1000)) (lCons (eBin .Pow (eC (.int 10)) (eC (.int 6))) (lNil)))))) (eBin .Sub (eLv 1) (eC (.int 5))))) (lCons (eBin .Add (eC (.int 1)) (eCall c__law_take 2 0 [0, 1] [] (lCons (eLv 0) (lCons (eC (.int 40)) (lNil))) (lNil))) (lNil))) (lNil)))))
noncomputable def P_ce__law_rows_1 (c__law_number : FM) : ME := eCall c__law_number 1 0 [0] [] (lCons (eLv 0) (lNil)) (lNil)
noncomputable def P_lp__law_rows_2 (c__law_take : FM) (c__law_less : FM) (c__law_number : FM) : MS := sSeq (sSet 6 (eBi oTuple (lCons (eNew (lComp (iRange1 (eLv 2)) (gNm 8) (tTrue) (P_ce__law_rows_1 c__law_number) [8])) (lNil)))) (sSeq (sSet 7 (eSub (eNew (fLst (lCons (eCall c__law_take 2 0 [0, 1] [] (lCons (eLv 0) (lCons (eC (.int 3)) (lNil))) (lNil)) (lCons (eBin .Sub (eCall c__law_take 2 0 [0, 1] [] (lCons (eLv 0) (lCons (eC (.int 2001)) (lNil))) (lNil)) (eC (.int 1000))) (lCons (eCall c__law_take 2 0 [0, 1] [] (lCons (eLv 0) (lCons (eC (.int 3)) (lNil))) (lNil)) (lNil)))))) (eLv 3))) (sSeq (sIf (tAnd (tV (eCmp .Eq (eLv 3) (eC (.int 2)))) (tV (eCmp .IsNot (eSub (eLv 6) (eC (.int 0))) (eC .non)))) (sSet 7 (eBin .Add (eLv 7) (eBin .Mult (eC (.int 7)) (eBi oInt (lCons (eCall c__law_less 2 0 [0, 1] [] (lCons (eTup (lCons (eC (.int 0)) (lCons (eC (.int 1)) (lNil)))) (lCons (eSub (eLv 6) (eC (.int 0))) (lNil))) (lNil)) (lNil)))))) (sSkip)) (sOwnApp 4 (eTup (lCons (eLv 6) (lCons (eLv 7) (lNil)))))))
noncomputable def P_b__law_rows (c__law_take : FM) (c__law_less : FM) (c__law_number : FM) : MS := sSeq (sSet 2 (eSub (eNew (fLst (lCons (eBin .Add (eC (.int 1)) (eCall c__law_take 2 0 [0, 1] [] (lCons (eLv 0) (lCons (eC (.int 3)) (lNil))) (lNil))) (lCons (eC (.int 8)) (lNil))))) (eBi oInt (lCons (eCmp .Eq (eCall c__law_take 2 0 [0, 1] [] (lCons (eLv 0) (lCons (eC (.int 8)) (lNil))) (lNil)) (eC (.int 0))) (lNil))))) (sSeq (sParOwn 3 4 (eCall c__law_take 2 0 [0, 1] [] (lCons (eLv 0) (lCons (eC (.int 3)) (lNil))) (lNil)) (fLst (lNil))) (sSeq (sFor (iRange1 (eBin .Add (eC (.int 1)) (eCall c__law_take 2 0 [0, 1] [] (lCons (eLv 0) (lCons (eLv 1) (lNil))) (lNil)))) (gNm 5) (P_lp__law_rows_2 c__law_take c__law_less c__law_number)) (sFreeze 4 (sRet (eLv 4)))))
/-- a loop by what holds between two turns, counted -/
theorem forL_ix {tg : MG} {b : MS} (I : Nat → Env' → Gh → Prop) : ∀ (ds : List D) (j : Nat), (∀ i d, ds[i]? = some d → ∀ env g, I (j + i) env g → ∃ env1, tg d env = some env1 ∧ ∃ env2 g2, b env1 g = .nx env2 g2 ∧ I (j + i + 1) env2 g2) →
    ∀ env g, I j env g → ∃ env' g', forL none tg b ds env g = .nx env' g' ∧ I (j + ds.length) env' g'
  | [], j, _, env, g, h => ⟨env, g, forL_nil, h⟩
  | d :: ds, j, hb, env, g, h => by
    obtain ⟨env1, e1, env2, g2, e2, h2⟩ := hb 0 d rfl env g h
    obtain ⟨env', g', e3, h3⟩ := forL_ix I ds (j + 1) (fun i d' hd env g hi => by
      have := hb (i + 1) d' (by simpa using hd) env g (by rw [show j + (i + 1) = j + 1 + i by omega]; exact hi)
      rw [show j + (i + 1) + 1 = j + 1 + i + 1 by omega] at this
      exact this) env2 g2 h2
    refine ⟨env', g', ?_, by rw [List.length_cons, show j + (ds.length + 1) = j + 1 + ds.length by omega]; exact h3⟩
    rw [forL_cons, e1]
    simp only [e2]
    exact e3
/-! ### the law's ratio -/
def RatF (f : FM) : Prop := ∀ (a b : Int) (g : Gh), 0 < b → Bd 60 b → f [.int a, .int b] g = .ok (dR (Rat.divInt a b)) g
theorem rat_spec : RatF (mFun 2 4 P_b__law_ratio) := fun a b g h hb => by
  have lp : ∀ (n m : Nat), sWhile P_wt__law_ratio_2 P_wl__law_ratio_1 [.val (.int a), .val (.int b), .val (.int m), .val (.int n)] g = .nx [.val (.int a), .val (.int b), .val (.int (Nat.gcd m n)), .val (.int 0)] g := by
    intro n
    induction n using Nat.strongRecOn with
    | ind n ih =>
      intro m
      rw [sWhile_eq]
      by_cases h0 : n = 0
      · subst h0
        simp [P_wt__law_ratio_2]
      · have e0 : ¬ (n : Int) = 0 := by omega
        have hlt : m % n < n := Nat.mod_lt _ (by omega)
        have := ih (m % n) hlt n
        simp [P_wt__law_ratio_2, P_wl__law_ratio_1, e0, h0, fmod_nat, -Int.natCast_emod] at this ⊢
        rw [this, Nat.gcd_comm n (m % n), ← Nat.gcd_rec n m, Nat.gcd_comm n m]
  have hb0 : b ≠ 0 := by omega
  have hp := gcd_pos (a := a) hb0
  have e1 := lp b.natAbs a.natAbs
  have eb : (b.natAbs : Int) = b := by omega
  have ea : (a.natAbs : Int) = if a < 0 then -a else a := (abs_if a).symm
  rw [ea, eb] at e1
  have d1 : divOk ((a.natAbs.gcd b.natAbs : Nat) : Int) = true := divOk_bd (b := 60) (show ((Int.gcd a b : Nat) : Int) ≠ 0 by omega) (bd_gcd hb0 hb) (by decide) (by decide)
  have fd : ∀ z : Int, z.fdiv ((a.natAbs.gcd b.natAbs : Nat) : Int) = z / (Int.gcd a b : Int) := fun z => Int.fdiv_eq_ediv_of_nonneg _ (by omega)
  have hn : ¬ b < 0 := by omega
  rw [← low_rat hb0]
  simp [mFun, P_b__law_ratio, e1, d1, fd, lim2, endR, lowT, lowU, hn]
def LessF (k : Nat) (f : FM) : Prop := ∀ (r s : Rat) (g : Gh), Sz k r → Sz k s → f [dR r, dR s] g = .ok (.bl (decide (r < s))) g
theorem less_spec {k : Nat} (k0 : 0 < k) (k8 : k ≤ 8000) : LessF k (mFun 2 2 P_b__law_less) := fun r s g hr hs => by
  have m1 := mm k0 k8 hr.1 hs.2
  have m2 := mm k0 k8 hs.1 hr.2
  have e1 : decide (r.num * (s.den : Int) < s.num * (r.den : Int)) = decide (r < s) := decide_eq_decide.mpr (Rat.lt_iff r s).symm
  simp [mFun, P_b__law_less, m1, m2, e1, endR]
theorem dR_lit {a b : Int} (hb : 0 < b) (h : Int.gcd a b = 1) : D.tup [.int a, .int b] = dR (Rat.divInt a b) := by
  rw [← low_rat (by omega)]
  have hn : ¬ b < 0 := by omega
  simp [lowT, lowU, hn, h]
def NumF (f : FM) : Prop := ∀ (n : Nat) (g : Gh), HasBag n g → ∃ x g', SzN 40 x ∧ HasBag n g' ∧ f [.loc n] g = .ok (dN x) g'
theorem num_spec {tk rt : FM} (ht : TakeF tk) (hr : RatF rt) : NumF (mFun 1 2 (P_b__law_number tk rt)) := fun n g hb => by
  obtain ⟨r1, g1, hr1, ⟨hb1, _⟩, e1⟩ := ht n g 8 hb (by decide) (by decide)
  have p6 : powOk 10 6 = true := powOk_bd (by decide) (by decide) (by decide)
  have m2 : mulOk 2 1000000 = true := mulOk_left (by decide)
  by_cases h0 : r1 = 0
  · refine ⟨none, g1, szN_none, hb1, ?_⟩
    simp [dN, mFun, P_b__law_number, permL, e1, h0, endR]
  by_cases h5 : r1 < 5
  · obtain ⟨r2, g2, hr2, ⟨hb2, _⟩, e2⟩ := ht n g1 7 hb1 (by decide) (by decide)
    obtain ⟨a, b, ha, hb0, hg, hat⟩ : ∃ a b : Int, (Bd 40 a ∧ Bd 40 b) ∧ 0 < b ∧ Int.gcd a b = 1 ∧ atI [D.tup [.int 0, .int 1], .tup [.int 1, .int 1], .tup [.int (-1), .int 1], .tup [.int 1, .int 2], .tup [.int 3, .int 2], .tup [.int (-2), .int 1], .tup [.int 2, .int 1]] r2 = some (.tup [.int a, .int b]) := by
      have : r2 = 0 ∨ r2 = 1 ∨ r2 = 2 ∨ r2 = 3 ∨ r2 = 4 ∨ r2 = 5 ∨ r2 = 6 := by omega
      rcases this with rfl | rfl | rfl | rfl | rfl | rfl | rfl <;> exact ⟨_, _, ⟨by decide, by decide⟩, by decide, by decide, rfl⟩
    refine ⟨some (Rat.divInt a b), g2, szN_some (.div (by omega) ha.1 ha.2), hb2, ?_⟩
    have lim7 : (7 : Nat) ≤ LIM := by decide
    rw [show dN (some (Rat.divInt a b)) = .tup [.int a, .int b] from (dR_lit hb0 hg).symm]
    simp [mFun, P_b__law_number, permL, e1, h0, h5, e2, lim2, lim7, hat, endR]
  obtain ⟨w, far, hw0, hw1, hw2, a1, a2⟩ : ∃ w far : Int, 0 < w ∧ w ≤ 2000001 ∧ (10 ≤ far ∧ far ≤ 1000000) ∧ atI [D.int 21, .int 2001, .int 2000001] (r1 - 5) = some (.int w) ∧ atI [D.int 10, .int 1000, .int 1000000] (r1 - 5) = some (.int far) := by
    have : r1 - 5 = 0 ∨ r1 - 5 = 1 ∨ r1 - 5 = 2 := by omega
    rcases this with e | e | e <;> rw [e] <;> exact ⟨_, _, by decide, by decide, ⟨by decide, by decide⟩, rfl, rfl⟩
  obtain ⟨r2, g2, hr2, ⟨hb2, _⟩, e2⟩ := ht n g1 w hb1 hw0 (bd_of (by omega))
  obtain ⟨r3, g3, hr3, ⟨hb3, _⟩, e3⟩ := ht n g2 40 hb2 (by decide) (by decide)
  have e4 := hr (r2 - far) (1 + r3) g3 (by omega) (bd_of (by omega))
  refine ⟨some (Rat.divInt (r2 - far) (1 + r3)), g3, szN_some (.div (by omega) (bd_of (by omega)) (bd_of (by omega))), hb3, ?_⟩
  simp [dN, mFun, P_b__law_number, permL, e1, h0, h5, e2, lim3, p6, m2, a1, a2, e3, e4, endR]
theorem oTuple_lst {xs : List D} {g : Gh} (h : xs.length ≤ LIM) : oTuple [.lst xs] g = .ok (.tup xs) g := by
  simp [oTuple, seqD]
theorem rangeD_len (lo : Int) (n : Nat) : (rangeD lo n).length = n := by simp [rangeD]
/-! ### the law's rows -/
def RwsF (f : FM) : Prop := ∀ (n most : Nat) (g : Gh), HasBag n g → 0 < most → most ≤ 50 → ∃ (rows : List Row) (cols : Nat) (g' : Gh), (1 ≤ cols ∧ cols ≤ 8) ∧ RowsOk 40 cols most rows ∧ rows ≠ [] ∧ HasBag n g' ∧ f [.loc n, .int most] g = .ok (dRows rows) g'
theorem rws_spec {tk ls nm : FM} (ht : TakeF tk) (hl : LessF 40 ls) (hn : NumF nm) : RwsF (mFun 2 9 (P_b__law_rows tk ls nm)) := fun n most g hb hm0 hm1 => by
  obtain ⟨r1, g1, hr1, ⟨hb1, _⟩, e1⟩ := ht n g 3 hb (by decide) (by decide)
  obtain ⟨r2, g2, hr2, ⟨hb2, _⟩, e2⟩ := ht n g1 8 hb1 (by decide) (by decide)
  obtain ⟨r3, g3, hr3, ⟨hb3, _⟩, e3⟩ := ht n g2 3 hb2 (by decide) (by decide)
  obtain ⟨r4, g4, hr4, ⟨hb4, _⟩, e4⟩ := ht n g3 most hb3 (by omega) (bd_of (by omega))
  obtain ⟨cols, hc0, hc1, hcol⟩ : ∃ cols : Nat, 1 ≤ cols ∧ cols ≤ 8 ∧ atI [D.int (1 + r1), .int 8] (if r2 = 0 then 1 else 0) = some (.int cols) := by
    by_cases h : r2 = 0
    · rw [if_pos h]; exact ⟨8, by decide, by decide, rfl⟩
    · rw [if_neg h]; exact ⟨(1 + r1).toNat, by omega, by omega, by show some (D.int (1 + r1)) = _; rw [show ((1 + r1).toNat : Int) = 1 + r1 by omega]⟩
  have m7 : ∀ z : Int, mulOk 7 z = true := fun z => mulOk_left (by decide)
  have rc : rngOk (cols : Int) = true := rng_nat (by omega)
  have turn : ∀ (rows : List Row) (g : Gh) (s5 s6 s7 s8 : Sl), HasBag n g → rows.length ≤ 50 → ∃ (row : Row) (g' : Gh) (y6 y7 : Sl), NsOk 40 cols row.1 ∧ Bd 20 row.2 ∧ HasBag n g' ∧ P_lp__law_rows_2 tk ls nm [.val (.loc n), .val (.int most), .val (.int cols), .val (.int r3), .own (rows.map dRow), s5, s6, s7, s8] g = .nx [.val (.loc n), .val (.int most), .val (.int cols), .val (.int r3), .own ((rows ++ [row]).map dRow), s5, y6, y7, s8] g' := fun rows g s5 s6 s7 s8 hb hlen => by
    obtain ⟨xs, g1, lx, hxs, hb1, e1⟩ := comp_num (it := iRange1 (eLv 2)) (i := 8) (e := P_ce__law_rows_1 nm) (env := [.val (.loc n), .val (.int most), .val (.int cols), .val (.int r3), .own (rows.map dRow), s5, s6, s7, s8]) (ds := rangeD 0 cols) hb (by simp [rc]) (by rw [rangeD_len]; exact Nat.le_trans hc1 (by decide)) (SzN 40) (fun d _ g hg => by
      obtain ⟨x, g', hx, hg', e⟩ := hn n g hg
      exact ⟨x, g', hx, hg', by simp [P_ce__law_rows_1, blkE, wipeE, permL, e]⟩)
    rw [rangeD_len] at lx
    obtain ⟨q1, g2, hq1, ⟨hb2, _⟩, e2⟩ := ht n g1 3 hb1 (by decide) (by decide)
    obtain ⟨q2, g3, hq2, ⟨hb3, _⟩, e3⟩ := ht n g2 2001 hb2 (by decide) (by decide)
    obtain ⟨q3, g4, hq3, ⟨hb4, _⟩, e4⟩ := ht n g3 3 hb3 (by decide) (by decide)
    obtain ⟨lab, hl0, hl1, hlab⟩ : ∃ lab : Int, -1000 ≤ lab ∧ lab ≤ 1000 ∧ atI [D.int q1, .int (q2 - 1000), .int q3] r3 = some (.int lab) := by
      have : r3 = 0 ∨ r3 = 1 ∨ r3 = 2 := by omega
      rcases this with e | e | e <;> rw [e]
      · exact ⟨q1, by omega, by omega, rfl⟩
      · exact ⟨q2 - 1000, by omega, by omega, rfl⟩
      · exact ⟨q3, by omega, by omega, rfl⟩
    have tup : oTuple [.lst (xs.map dN)] g1 = .ok (.tup (xs.map dN)) g1 := oTuple_lst (by rw [List.length_map, lx]; exact Nat.le_trans hc1 (by decide))
    have hx0 : 0 < xs.length := by omega
    have a0 : atI (xs.map dN) 0 = some (dN xs[0]) := by
      have := atI_nat (l := xs.map dN) (i := 0) (by simpa using hx0)
      simpa using this
    have hlen' : rows.length < LIM := Nat.lt_of_le_of_lt hlen (by decide)
    have fin : ∀ (l2 : Int), Bd 20 l2 → (∀ s5 s7 s8 : Sl, ∃ y7 : Sl, (sSeq (sIf (tAnd (tV (eCmp .Eq (eLv 3) (eC (.int 2)))) (tV (eCmp .IsNot (eSub (eLv 6) (eC (.int 0))) (eC .non)))) (sSet 7 (eBin .Add (eLv 7) (eBin .Mult (eC (.int 7)) (eBi oInt (lCons (eCall ls 2 0 [0, 1] [] (lCons (eTup (lCons (eC (.int 0)) (lCons (eC (.int 1)) (lNil)))) (lCons (eSub (eLv 6) (eC (.int 0))) (lNil))) (lNil)) (lNil)))))) (sSkip)) (sOwnApp 4 (eTup (lCons (eLv 6) (lCons (eLv 7) (lNil)))))) [.val (.loc n), .val (.int most), .val (.int cols), .val (.int r3), .own (rows.map dRow), s5, .val (.tup (xs.map dN)), .val (.int lab), s8] g4 = .nx [.val (.loc n), .val (.int most), .val (.int cols), .val (.int r3), .own ((rows ++ [(xs, l2)]).map dRow), s5, .val (.tup (xs.map dN)), y7, s8] g4) →
        ∃ (row : Row) (g' : Gh) (y6 y7 : Sl), NsOk 40 cols row.1 ∧ Bd 20 row.2 ∧ HasBag n g' ∧ P_lp__law_rows_2 tk ls nm [.val (.loc n), .val (.int most), .val (.int cols), .val (.int r3), .own (rows.map dRow), s5, s6, s7, s8] g = .nx [.val (.loc n), .val (.int most), .val (.int cols), .val (.int r3), .own ((rows ++ [row]).map dRow), s5, y6, y7, s8] g' := fun l2 hl2 hrest => by
      obtain ⟨y7, er⟩ := hrest s5 s7 s8
      refine ⟨(xs, l2), g4, .val (.tup (xs.map dN)), y7, ⟨lx, hxs⟩, hl2, hb4, ?_⟩
      unfold P_lp__law_rows_2
      generalize (sSeq (sIf (tAnd (tV (eCmp .Eq (eLv 3) (eC (.int 2)))) (tV (eCmp .IsNot (eSub (eLv 6) (eC (.int 0))) (eC .non)))) (sSet 7 (eBin .Add (eLv 7) (eBin .Mult (eC (.int 7)) (eBi oInt (lCons (eCall ls 2 0 [0, 1] [] (lCons (eTup (lCons (eC (.int 0)) (lCons (eC (.int 1)) (lNil)))) (lCons (eSub (eLv 6) (eC (.int 0))) (lNil))) (lNil)) (lNil)))))) (sSkip)) (sOwnApp 4 (eTup (lCons (eLv 6) (lCons (eLv 7) (lNil)))))) = RST at *
      generalize eNew (lComp (iRange1 (eLv 2)) (gNm 8) (tTrue) (P_ce__law_rows_1 nm) [8]) = CE at *
      simp [e1, tup, permL, e2, e3, e4, lim3, hlab, er]
    by_cases hw : r3 = 2
    · cases hv : xs[0] with
      | none =>
        rw [hv] at a0
        refine fin lab (bd_of (by omega)) fun s5 s7 s8 => ⟨.val (.int lab), ?_⟩
        simp only [dN] at a0
        simp [hw, a0, lim2, hlen', dRow, dNs]
      | some r =>
        rw [hv] at a0
        have hr : Sz 40 r := hxs xs[0] (List.getElem_mem hx0) r hv
        have el := hl 0 r g4 ⟨(by decide : Bd 2 0).mono (by decide), (by decide : Bd 2 1).mono (by decide)⟩ hr
        have z0 : D.tup [.int 0, .int 1] = dR 0 := rfl
        refine fin (lab + 7 * (if (0 : Rat) < r then 1 else 0)) (bd_of (by split <;> omega)) fun s5 s7 s8 => ⟨.val (.int (lab + 7 * (if (0 : Rat) < r then 1 else 0))), ?_⟩
        simp only [dN] at a0
        simp [hw, a0, lim2, hlen', dRow, dNs, permL, z0, el, m7]
    · refine fin lab (bd_of (by omega)) fun s5 s7 s8 => ⟨.val (.int lab), ?_⟩
      simp [hw, lim2, hlen', dRow, dNs]
  obtain ⟨env', g', e, rows, s5, s6, s7, s8, rfl, hrl, hro, hb'⟩ := forL_ix (tg := gNm 5) (b := P_lp__law_rows_2 tk ls nm) (fun i env g => ∃ (rows : List Row) (s5 s6 s7 s8 : Sl), env = [.val (.loc n), .val (.int most), .val (.int cols), .val (.int r3), .own (rows.map dRow), s5, s6, s7, s8] ∧ rows.length = i ∧ (∀ r ∈ rows, NsOk 40 cols r.1 ∧ Bd 20 r.2) ∧ HasBag n g) (rangeD 0 (1 + r4).toNat) 0 (by
    rintro i d hd env g ⟨rows, s5, s6, s7, s8, rfl, hrl, hro, hb⟩
    have hi : i < (1 + r4).toNat := by
      have := (List.getElem?_eq_some_iff.mp hd).1
      rw [rangeD_len] at this; exact this
    obtain ⟨row, g', y6, y7, h1, h2, h3, h4⟩ := turn rows g (.val d) s6 s7 s8 hb (by omega)
    refine ⟨_, rfl, _, g', h4, rows ++ [row], _, _, _, _, rfl, by simp [hrl], fun r hr => ?_, h3⟩
    rcases List.mem_append.mp hr with hr | hr
    · exact hro r hr
    · simp at hr; subst hr; exact ⟨h1, h2⟩) [.val (.loc n), .val (.int most), .val (.int cols), .val (.int r3), .own [], .un, .un, .un, .un] g4 ⟨[], _, _, _, _, rfl, rfl, (fun _ q => nomatch q), hb4⟩
  rw [rangeD_len] at hrl
  have r1r : rngOk (1 + r4) = true := rng_in (by omega) (by omega)
  refine ⟨rows, cols, g', ⟨hc0, hc1⟩, ⟨by omega, hro⟩, fun e => by rw [e] at hrl; simp at hrl; omega, hb', ?_⟩
  have hif : ∀ g : Gh, (if r2 = 0 then R.ok (D.int 1) g else R.ok (D.int 0) g) = R.ok (D.int (if r2 = 0 then 1 else 0)) g := fun g => by split <;> rfl
  simp [mFun, P_b__law_rows, sParOwn, permL, e1, e2, e3, e4, lim2, hcol, r1r, e, endR, dRows]
end GL
namespace LW
open PySem L2 GL
section
variable {k : Nat} {g : Gh}
theorem eqS_yes {x : Str} {g : Gh} : cmpop .Eq (.str x) (.str x) g = .ok (.bl true) g := by
  rw [eqS_ap]; simp
/-! ### names -/
def nmB (s : Str) : Bool := decide (1 ≤ s.length) && decide (s.length ≤ 8) && s.cps.toList.all fun c => decide (97 ≤ c) && decide (c < 123)
abbrev Nm (s : Str) : Prop := nmB s = true
theorem Nm.h {s : Str} (h : Nm s) : 1 ≤ s.length ∧ s.length ≤ 8 ∧ ∀ c ∈ s.cps.toList, 97 ≤ c ∧ c < 123 := by
  simp only [Nm, nmB, Bool.and_eq_true, decide_eq_true_eq, List.all_eq_true] at h
  exact ⟨h.1.1, h.1.2, h.2⟩
theorem Nm.sm {s : Str} (h : Nm s) : Sm s := ⟨Nat.le_trans h.h.2.1 (by decide), by
  rw [sOk_iff]; intro c hc; have := (h.h.2.2 c hc).2; omega⟩
theorem in_letters : ∀ c, c < 123 → 97 ≤ c → c ∈ (Str.ofString "abcdefghijklmnopqrstuvwxyz").cps.toList := by decide +kernel
theorem f1 {i : Int} : tab (k + 1) 1 [.int i] g = .ok (.bl true) g := by
  show mFun 1 1 (b_is_whole (tab k)) [.int i] g = _
  simp [mFun, b_is_whole, isInt, isBool, endR]
theorem f2 {i lo hi : Int} (h1 : lo ≤ i) (h2 : i ≤ hi) : tab (k + 2) 2 [.int i, .int lo, .int hi] g = .ok (.bl true) g := by
  show mFun 3 3 (b_is_within (tab (k + 1))) [.int i, .int lo, .int hi] g = _
  have e := f1 (k := k) (g := g) (i := i)
  simp [mFun, b_is_within, permL, e, h1, h2, endR]
theorem f3 {s : Str} (h : Nm s) : tab (k + 1) 3 [.str s] g = .ok (.bl true) g := by
  show mFun 1 2 (b_is_name (tab k)) [.str s] g = _
  obtain ⟨h1, h2, h3⟩ := h.h
  have h1' : (1 : Int) ≤ (s.length : Int) := by omega
  have h2' : (s.length : Int) ≤ 8 := by omega
  have e := all_comp (it := iV (eLv 0)) (i := 1) (e := ce_is_name_1 (tab k)) (env := [.val (.str s), .un]) (g := g) (ds := s.cps.toList.map fun c => .str ⟨#[c]⟩) rfl (by
    rw [List.length_map]; exact Nat.le_trans (show s.cps.toList.length ≤ 8 by rw [Array.length_toList]; exact h2) (by decide)) (by
    intro d hd
    obtain ⟨c, hc, rfl⟩ := List.mem_map.mp hd
    have := in_letters c (h3 c hc).2 (h3 c hc).1
    simp only [ce_is_name_1, blkE, wipeE, hideS, v_LETTERS]
    have this' := Array.mem_toList_iff.mp this
    simp [cmpop, cmpopV, inD, deref, guardR, this'])
  have el : oLen [.str s] g = .ok (.int s.length) g := by 
    have : s.length ≤ LIM := Nat.le_trans h2 (by decide)
    simp [oLen, deref, lenD, this]
  simp at e
  simp [mFun, b_is_name, isStr, v_MOST_LETTERS, el, h1', h2']
  simp [e, endR]
theorem f4 {i : Int} (h1 : 0 ≤ i) (h2 : i ≤ 1000000) : tab (k + 3) 4 [.int i] g = .ok (.bl true) g := by
  show mFun 1 1 (b_is_moment (tab (k + 2))) [.int i] g = _
  have e := f2 (k := k) (g := g) h1 h2
  simp [mFun, b_is_moment, permL, v_FAR, e, endR]
/-- cells of a column -/
def CellK (kind : Str) (d : D) : Prop := d = .non ∨ (kind = "number" ∧ ∃ i : Int, d = .int i ∧ -1000000 ≤ i ∧ i ≤ 1000000) ∨ (kind = "word" ∧ ∃ s, d = .str s ∧ Nm s)
theorem CellK.cell {kind : Str} {d : D} (h : CellK kind d) : CellD d := by
  rcases h with rfl | ⟨_, i, rfl, h1, h2⟩ | ⟨_, s, rfl, h⟩
  · exact cell_non
  · exact cell_int (by show i.natAbs < 2 ^ 60; omega)
  · exact cell_str h.sm
theorem f5 {kind : Str} {d : D} (h : CellK kind d) : tab (k + 3) 5 [d, .str kind] g = .ok (.bl true) g := by
  show mFun 2 2 (b_is_cell (tab (k + 2))) [d, .str kind] g = _
  rcases h with rfl | ⟨rfl, i, rfl, h1, h2⟩ | ⟨rfl, s, rfl, h⟩
  · simp [mFun, b_is_cell, endR]
  · have e := f2 (k := k) (g := g) h1 h2
    simp [mFun, b_is_cell, permL, GL.isNon, v_NUMBER, eqS_yes, v_FAR, e, endR]
  · have e := f3 (k := k + 1) (g := g) h
    have n0 : cmpop .Eq (.str "word") (.str "number") g = .ok (.bl false) g := eqS_no (by decide +kernel)
    simp [mFun, b_is_cell, permL, GL.isNon, v_NUMBER, n0, e, endR]
/-- keys that are all others -/
theorem keysOf_nodup : ∀ (xs : List Str) (acc : List Key), (acc ++ xs.map (Sum.inr : Str → Key)).Nodup → keysOf acc (xs.map D.str) = some (acc ++ xs.map Sum.inr)
  | [], acc, _ => by simp [keysOf]
  | x :: xs, acc, h => by
    have hn : ¬ ((.inr x : Key) ∈ acc) := by
      intro hm
      rw [List.nodup_append] at h
      exact h.2.2 _ hm _ (by simp) rfl
    have hm : memB acc (.inr x) = false := by
      rw [Bool.eq_false_iff]; intro q; exact hn (memB_iff.mp q)
    simp only [List.map_cons, keysOf, keyD, hm]
    rw [if_neg (by simp)]
    rw [keysOf_nodup xs (acc ++ [(.inr x : Key)]) (by simpa using h)]
    simp
theorem putKD_new {kvs : List (Key × D)} {c : Key} {v : D} (h : ∀ kv ∈ kvs, kv.1 ≠ c) : putKD kvs c v = kvs ++ [(c, v)] := by
  unfold putKD
  rw [if_neg]
  intro q
  rw [List.any_eq_true] at q
  obtain ⟨kv, h1, h2⟩ := q
  exact h kv h1 (by simpa using h2)
theorem dctOf_nodup {α : Type} (f : α → Str) (v : α → D) : ∀ (xs : List α) (acc : List (Key × D)), ((acc.map (fun kv : Key × D => kv.1)) ++ xs.map (fun x => (Sum.inr (f x) : Key))).Nodup → dctOf acc (xs.map fun x => .tup [.str (f x), v x]) = some (acc ++ xs.map fun x => (.inr (f x), v x))
  | [], acc, _ => by simp [dctOf]
  | x :: xs, acc, h => by
    have hn : ∀ kv ∈ acc, kv.1 ≠ .inr (f x) := by
      intro kv hm q
      rw [List.nodup_append] at h
      exact h.2.2 kv.1 (List.mem_map_of_mem hm) _ (by simp) q
    simp only [List.map_cons, dctOf, keyD]
    rw [putKD_new hn, dctOf_nodup f v xs _ (by simpa using h)]
    simp
theorem compL_mapA {α : Type} {tg : MG} {e : ME} {env : Env'} {g : Gh} (enc : α → D) (f : α → D) (xs : List α) (h : ∀ x ∈ xs, ∃ env1, tg (enc x) env = some env1 ∧ e env1 g = .ok (f x) g) : compL none tg tTrue e (xs.map enc) env g = .ok (xs.map f) g := by
  induction xs with
  | nil => exact compL_nil
  | cons x xs ih =>
    obtain ⟨env1, e1, e2⟩ := h x (by simp)
    rw [List.map_cons, compL_cons, e1]
    simp only [tTrue_ap, if_true, e2, ih fun y hy => h y (List.mem_cons_of_mem _ hy), List.map_cons]
theorem all_map {α : Type} {xs : List α} {g : Gh} : oAll [.lst (xs.map fun _ => D.bl true)] g = .ok (.bl true) g := all_true (by simp)
theorem nodup_inr {xs : List Str} (h : xs.Nodup) : (xs.map (Sum.inr : Str → Key)).Nodup := by
  unfold List.Nodup at *
  rw [List.pairwise_map]
  exact h.imp fun hne q => hne (Sum.inr.inj q)
/-- pairs of a name and whatever -/
theorem f6 {α : Type} {f : α → Str} {v : α → D} {xs : List α} {most : Int} (h0 : 1 ≤ xs.length) (h1 : (xs.length : Int) ≤ most) (hl : xs.length ≤ 4) (hn : ∀ x ∈ xs, Nm (f x)) (hd : (xs.map f).Nodup) :
    tab (k + 2) 6 [.tup (xs.map fun x => .tup [.str (f x), v x]), .int most] g = .ok (.bl true) g := by
  show mFun 2 5 (b_are_pairs (tab (k + 1))) [.tup (xs.map fun x => .tup [.str (f x), v x]), .int most] g = _
  have h0' : (1 : Int) ≤ (xs.length : Int) := by omega
  have e1 := compL_mapA (tg := gNm 2) (e := ce_are_pairs_1 (tab (k + 1))) (env := [.val (.tup (xs.map fun x => .tup [.str (f x), v x])), .val (.int most), .un, .un, .un]) (g := g) (fun x => .tup [.str (f x), v x]) (fun _ => .bl true) xs (fun x hx => by
    have e := f3 (k := k) (g := g) (hn x hx)
    have a0 : atI [D.str (f x), v x] 0 = some (.str (f x)) := rfl
    refine ⟨_, rfl, ?_⟩
    simp [ce_are_pairs_1, isTuple, lenD, a0, permL, e])
  have e2 := compL_mapA (tg := gTp 2 (gsCons (gNm 3) (gsCons (gNm 4) gsNil))) (e := eLv 3) (env := [.val (.tup (xs.map fun x => .tup [.str (f x), v x])), .val (.int most), .un, .un, .un]) (g := g) (fun x => .tup [.str (f x), v x]) (fun x => .str (f x)) xs (fun x hx => ⟨_, rfl, rfl⟩)
  have hl2 : xs.length ≤ LIM := Nat.le_trans hl (by decide)
  have hl3 : xs.length ≤ 1000 := Nat.le_trans hl (by decide)
  have e3 := keysOf_nodup (xs.map f) [] (by simpa using nodup_inr hd)
  rw [List.map_map, List.nil_append] at e3
  have e3' : keysOf [] (xs.map fun x => D.str (f x)) = some ((xs.map f).map Sum.inr) := e3
  simp [mFun, b_are_pairs, isTuple, lenD, h0', h1, blkE, wipeE, hideS, e1, hl2, all_map, eSetLen, e2, hl3, e3', endR]
structure ColsOk (cols : List (Str × Str)) : Prop where
  lo : 1 ≤ cols.length
  hi : cols.length ≤ 3
  nm : ∀ q ∈ cols, Nm q.1
  kd : ∀ q ∈ cols, q.2 = "number" ∨ q.2 = "word"
  nd : (cols.map (·.1)).Nodup
structure SsOk (ss : List Src) : Prop where
  lo : 1 ≤ ss.length
  hi : ss.length ≤ 3
  nm : ∀ p ∈ ss, Nm p.1
  co : ∀ p ∈ ss, ColsOk p.2
  nd : (ss.map (·.1)).Nodup
theorem f7 {cols : List (Str × Str)} (h : ColsOk cols) : tab (k + 3) 7 [.tup (cols.map encC)] g = .ok (.bl true) g := by
  show mFun 1 3 (b_are_columns (tab (k + 2))) [.tup (cols.map encC)] g = _
  have hi := h.hi
  have e1 := f6 (k := k) (g := g) (f := fun q : Str × Str => q.1) (v := fun q => .str q.2) (xs := cols) (most := 4) h.lo (by omega) (by omega) h.nm h.nd
  have e1' : tab (k + 2) 6 [.tup (cols.map encC), .int 4] g = .ok (.bl true) g := e1
  have e2 := compL_mapA (tg := gTp 2 (gsCons (gNm 1) (gsCons (gNm 2) gsNil))) (e := ce_are_columns_1 (tab (k + 2))) (env := [.val (.tup (cols.map encC)), .un, .un]) (g := g) encC (fun _ => .bl true) cols (fun q hq => by
    refine ⟨_, rfl, ?_⟩
    have : memD (.str q.2) [.str "number", .str "word"] = true := by
      rcases h.kd q hq with e | e <;> rw [e] <;> decide +kernel
    simp [ce_are_columns_1, isStr, v_KINDS, cmpop, cmpopV, inD, deref, flatD, guardR, this])
  have hl2 : cols.length ≤ LIM := Nat.le_trans hi (by decide)
  simp [mFun, b_are_columns, v_MOST_COLUMNS, permL, e1', blkE, wipeE, hideS, e2, hl2, all_map, endR]
theorem f8 {ss : List Src} (h : SsOk ss) : tab (k + 4) 8 [.tup (ss.map encS)] g = .ok (.bl true) g := by
  show mFun 1 3 (b_are_sources (tab (k + 3))) [.tup (ss.map encS)] g = _
  have hi := h.hi
  have e1 := f6 (k := k + 1) (g := g) (f := fun q : Src => q.1) (v := fun q => .tup (q.2.map encC)) (xs := ss) (most := 4) h.lo (by omega) (by omega) h.nm h.nd
  have e1' : tab (k + 3) 6 [.tup (ss.map encS), .int 4] g = .ok (.bl true) g := e1
  have e2 := compL_mapA (tg := gTp 2 (gsCons (gNm 1) (gsCons (gNm 2) gsNil))) (e := ce_are_sources_1 (tab (k + 3))) (env := [.val (.tup (ss.map encS)), .un, .un]) (g := g) encS (fun _ => .bl true) ss (fun q hq => by
    refine ⟨_, rfl, ?_⟩
    have e := f7 (k := k) (g := g) (h.co q hq)
    simp [ce_are_sources_1, permL, e])
  have hl2 : ss.length ≤ LIM := Nat.le_trans hi (by decide)
  simp [mFun, b_are_sources, v_MOST_SOURCES, permL, e1', blkE, wipeE, hideS, e2, hl2, all_map, endR]
/-- cells that fit columns -/
abbrev Zs := List ((Str × Str) × D)
def CellsOk (cols : List (Str × Str)) (cs : List D) : Prop := ∃ zs : Zs, cols = zs.map (·.1) ∧ cs = zs.map (·.2) ∧ ∀ z ∈ zs, CellK z.1.2 z.2
theorem pairD_zs : ∀ zs : Zs, pairD ((zs.map (·.1)).map encC) (zs.map (·.2)) = zs.map fun z => .tup [encC z.1, z.2]
  | [] => rfl
  | z :: zs => by
    have := pairD_zs zs
    simp only [pairD] at this ⊢
    simp only [List.map_cons, List.zipWith_cons_cons, this]
theorem f9 {cols : List (Str × Str)} {cs : List D} (hc : ColsOk cols) (h : CellsOk cols cs) : tab (k + 4) 9 [.tup (cols.map encC), .tup cs] g = .ok (.bl true) g := by
  obtain ⟨zs, rfl, rfl, h⟩ := h
  show mFun 2 5 (b_are_cells (tab (k + 3))) [.tup ((zs.map (·.1)).map encC), .tup (zs.map (·.2))] g = _
  have hi := hc.hi
  rw [List.length_map] at hi
  have e2 := compL_mapA (tg := gTp 2 (gsCons (gTp 2 (gsCons (gNm 2) (gsCons (gNm 3) gsNil))) (gsCons (gNm 4) gsNil))) (e := ce_are_cells_1 (tab (k + 3))) (env := [.val (.tup ((zs.map (·.1)).map encC)), .val (.tup (zs.map (·.2))), .un, .un, .un]) (g := g) (fun z => .tup [encC z.1, z.2]) (fun _ => .bl true) zs (fun z hz => by
    refine ⟨_, rfl, ?_⟩
    have e := f5 (k := k) (g := g) (h z hz)
    simp [ce_are_cells_1, permL, e])
  have hl2 : zs.length ≤ LIM := Nat.le_trans hi (by decide)
  have hz := pairD_zs zs
  rw [List.map_map] at hz e2
  simp [mFun, b_are_cells, isTuple, blkE, wipeE, hideS, hz, e2, hl2, all_map, endR]
/-! ### letters -/
structure LT where
  src : Str
  row : Int
  ver : Int
  body : Option (Str × Int × List D)
def encL (l : LT) : D := match l.body with
  | none => .tup [.str "unsay", .str l.src, .int l.row, .int l.ver]
  | some (key, m, cs) => .tup [.str "say", .str l.src, .int l.row, .int l.ver, .str key, .int m, .tup cs]
def BodyOk (cols : List (Str × Str)) : Option (Str × Int × List D) → Prop
  | none => True
  | some (key, m, cs) => Nm key ∧ 0 ≤ m ∧ m ≤ 1000000 ∧ CellsOk cols cs
def LetOk (ss : List Src) (l : LT) : Prop := ∃ cols, (l.src, cols) ∈ ss ∧ 1 ≤ l.row ∧ l.row ≤ 6 ∧ 1 ≤ l.ver ∧ l.ver ≤ 3 ∧ BodyOk cols l.body
theorem valD_map {α : Type} (f : α → Str) (v : α → D) : ∀ (xs : List α), (xs.map f).Nodup → ∀ x ∈ xs, valD (xs.map fun x => ((.inr (f x) : Key), v x)) (.inr (f x)) = some (v x)
  | [], _, x, h => by simp at h
  | y :: ys, hn, x, h => by
    simp only [List.map_cons, List.nodup_cons] at hn
    rcases List.mem_cons.mp h with rfl | h
    · simp [valD]
    · have hne : f y ≠ f x := fun q => hn.1 (q ▸ List.mem_map_of_mem h)
      have ih := valD_map f v ys hn.2 x h
      simp only [valD] at ih ⊢
      rw [List.map_cons, List.find?_cons_of_neg (by simpa using hne)]
      exact ih
def known (ss : List Src) : List (Key × D) := ss.map fun p => (.inr p.1, .tup (p.2.map encC))
theorem ne_nil3 {x y z : D} {g : Gh} (h : okD (.lst [x, y, z]) 64 = true) : cmpop .NotEq (.lst [x, y, z]) (.lst []) g = .ok (.bl true) g := by
  rw [ne_ap]
  simp only [deref_lst]
  have h2 : okE (.lst [x, y, z]) (.lst []) = true := by
    unfold okE; rw [h]; rfl
  rw [h2]; simp [eqD, eqDs]
theorem eq_nil3 {x y z : D} {g : Gh} (h : okD (.lst [x, y, z]) 64 = true) : cmpop .Eq (.lst [x, y, z]) (.lst []) g = .ok (.bl false) g := by
  rw [eq_ap]
  simp only [deref_lst]
  have h2 : okE (.lst [x, y, z]) (.lst []) = true := by
    unfold okE; rw [h]; rfl
  rw [h2]; simp [eqD, eqDs]
theorem ok_cell {d : D} {n : Nat} (h : CellD d) : okD d n = true := by
  rcases h with rfl | ⟨i, rfl, h⟩ | ⟨s, rfl, h⟩
  · cases n <;> rfl
  · cases n <;> rfl
  · have := h.2
    cases n <;> simpa only [okD] using this
theorem ok_rest {key : Str} {m : Int} {cs : List D} (hk : Sm key) (h : ∀ c ∈ cs, CellD c) : okD (.lst [.str key, .int m, .tup cs]) 64 = true := by
  have h1 : okDs cs 62 = true := by
    rw [okDs_all, List.all_eq_true]; exact fun c hc => ok_cell (h c hc)
  have h2 : PyData.strOk key = true := hk.2
  simp only [okD, okDs, h1, h2, Bool.and_true]
theorem CellsOk.cell {cols : List (Str × Str)} {cs : List D} (h : CellsOk cols cs) : ∀ c ∈ cs, CellD c := by
  obtain ⟨zs, rfl, rfl, h⟩ := h
  intro c hc
  obtain ⟨z, hz, rfl⟩ := List.mem_map.mp hc
  exact (h z hz).cell
theorem f10 {ss : List Src} {l : LT} (h : SsOk ss) (hl : LetOk ss l) : tab (k + 5) 10 [.tup (ss.map encS), encL l] g = .ok (.bl true) (g ++ [.dct (known ss)]) := by
  show mFun 2 13 (b_is_letter (tab (k + 4))) [.tup (ss.map encS), encL l] g = _
  obtain ⟨src, row, ver, body⟩ := l
  obtain ⟨cols, hm, hr1, hr2, hv1, hv2, hb⟩ := hl
  simp only at hm hr1 hr2 hv1 hv2 hb
  have hd := dctOf_nodup (fun p : Src => p.1) (fun p => .tup (p.2.map encC)) ss [] (by
    have := nodup_inr h.nd
    rw [List.map_map] at this
    exact this)
  have hd' : dctOf [] (ss.map fun p => D.tup [.str p.1, .tup (p.2.map encC)]) = some (known ss) := by rw [hd]; rfl
  have hs2 : ss.length ≤ LIM := Nat.le_trans h.hi (by decide)
  have hv := valD_map (fun p : Src => p.1) (fun p => .tup (p.2.map encC)) ss h.nd _ hm
  have hv' : valD (known ss) (.inr src) = some (.tup (cols.map encC)) := hv
  have ex1 : ∀ g, tab (k + 4) 2 [.int row, .int 1, .int 999] g = .ok (.bl true) g := fun g => f2 (k := k + 2) hr1 (by omega)
  have ex2 : ∀ g, tab (k + 4) 2 [.int ver, .int 1, .int 99] g = .ok (.bl true) g := fun g => f2 (k := k + 2) hv1 (by omega)
  have hat : (g ++ [O.dct (known ss)])[g.length]? = some (.dct (known ss)) := by simp
  have l7 : (7 : Nat) ≤ LIM := by decide
  have l0 : (0 : Nat) ≤ LIM := by decide
  cases body with
  | none =>
    have n0 : ∀ g, cmpop .NotEq (.lst []) (.lst []) g = .ok (.bl false) g := fun _ => rfl
    have n1 : ∀ g, cmpop .Eq (.lst []) (.lst []) g = .ok (.bl true) g := fun _ => rfl
    have e2 := compL_mapA (tg := gTp 2 (gsCons (gNm 11) (gsCons (gNm 12) gsNil))) (e := ePairK (eLv 11) (eLv 12)) (env := [.val (.tup (ss.map encS)), .val (.tup [.str "unsay", .str src, .int row, .int ver]), .val (.str "unsay"), .val (.str src), .val (.int row), .val (.int ver), .val (.lst []), .un, .un, .un, .un, .un, .un]) (g := g) encS (fun p => .tup [.str p.1, .tup (p.2.map encC)]) ss (fun q hq => ⟨_, rfl, by simp [ePairK, keyD]⟩)
    have a0 : atI [D.str "unsay", .str src, .int row, .int ver] 0 = some (.str "unsay") := rfl
    have w0 : ∀ g, cmpop .NotIn (.int 4) (.tup [.int 4, .int 7]) g = .ok (.bl false) g := fun _ => rfl
    have w1 : ∀ g, cmpop .NotEq (.str "unsay") (.str "unsay") g = .ok (.bl false) g := fun _ => ne_same (sOk_of _)
    simp [mFun, b_is_letter, encL, isTuple, isStr, gSt, itsD, a0, lim4, lim2, w0, l0, eDComp, blkE, wipeE, hideS, e2, hs2, hd', n0, n1, v_UNSAY, w1, atDct_at hat, hv', permL, v_MOST_ROW, v_MOST_VERSION, ex1, ex2, endR]
  | some b =>
    obtain ⟨key, m, cs⟩ := b
    obtain ⟨hk, hm1, hm2, hcs⟩ := hb
    have n0 := fun g => ne_nil3 (g := g) (ok_rest (m := m) hk.sm hcs.cell)
    have n1 := fun g => eq_nil3 (g := g) (ok_rest (m := m) hk.sm hcs.cell)
    have e2 := compL_mapA (tg := gTp 2 (gsCons (gNm 11) (gsCons (gNm 12) gsNil))) (e := ePairK (eLv 11) (eLv 12)) (env := [.val (.tup (ss.map encS)), .val (.tup [.str "say", .str src, .int row, .int ver, .str key, .int m, .tup cs]), .val (.str "say"), .val (.str src), .val (.int row), .val (.int ver), .val (.lst [.str key, .int m, .tup cs]), .un, .un, .un, .un, .un, .un]) (g := g) encS (fun p => .tup [.str p.1, .tup (p.2.map encC)]) ss (fun q hq => ⟨_, rfl, by simp [ePairK, keyD]⟩)
    have a0 : atI [D.str "say", .str src, .int row, .int ver, .str key, .int m, .tup cs] 0 = some (.str "say") := rfl
    have w0 : ∀ g, cmpop .NotIn (.int 7) (.tup [.int 4, .int 7]) g = .ok (.bl false) g := fun _ => rfl
    have w1 : ∀ g, cmpop .NotEq (.str "say") (.str "say") g = .ok (.bl false) g := fun _ => ne_same (sOk_of _)
    have x1 := fun g => f3 (k := k + 3) (g := g) hk
    have x2 := fun g => f4 (k := k + 1) (g := g) hm1 hm2
    have x3 := fun g => f9 (k := k) (g := g) (h.co _ hm) hcs
    simp [mFun, b_is_letter, encL, isTuple, isStr, gSt, gSq, itsD, a0, l7, lim3, lim2, w0, l0, eDComp, blkE, wipeE, hideS, e2, hs2, hd', n0, n1, v_SAY, w1, atDct_at hat, hv', permL, v_MOST_ROW, v_MOST_VERSION, ex1, ex2, x1, x2, x3, endR]
end
end LW

namespace LW
open PySem L2 GL
section
variable {k : Nat} {g : Gh}
/-- the bag alone is changed -/
def BF (n : Nat) (g g' : Gh) : Prop := HasBag n g' ∧ g'.length = g.length ∧ ∀ j, j ≠ n → g'[j]? = g[j]?
theorem BF.refl {n : Nat} {g : Gh} (h : HasBag n g) : BF n g g := ⟨h, rfl, fun _ _ => rfl⟩
theorem BF.trans {n : Nat} {a b c : Gh} (x : BF n a b) (y : BF n b c) : BF n a c := ⟨y.1, y.2.1.trans x.2.1, fun j h => (y.2.2 j h).trans (x.2.2 j h)⟩
theorem f16 {ns : List Int} {j : Nat} (hj : j ≤ 1000000) : ∃ n g', HasBag n g' ∧ tab (k + 1) 16 [.arr ns, .int j] g = .ok (.loc n) g' := by
  obtain ⟨o, ho, e⟩ := bag_spec (ns := ns) (g := g) hj
  exact ⟨g.length, g ++ [o], ⟨o, by simp, ho⟩, e⟩
theorem tk {n : Nat} {g : Gh} {m : Int} (h : HasBag n g) (h0 : 0 < m) (h1 : Bd 64 m) : ∃ r g', (0 ≤ r ∧ r < m) ∧ BF n g g' ∧ tab (k + 1) 17 [.loc n, .int m] g = .ok (.int r) g' := takeF n g m h h0 h1
def NmD (d : D) : Prop := ∃ s, d = .str s ∧ Nm s
theorem nmD {s : String} (h : Nm (Str.ofString s)) : NmD (.str (Str.ofString s)) := ⟨_, rfl, h⟩
theorem f19 {n : Nat} (hb : HasBag n g) : ∃ s g', Nm s ∧ BF n g g' ∧ tab (k + 2) 19 [.loc n] g = .ok (.str s) g' := by
  obtain ⟨r, g1, hr, b1, e1⟩ := tk (k := k) (m := 4) hb (by decide) (by decide)
  obtain ⟨d, ⟨s, rfl, hs⟩, ha⟩ := pick_at (xs := [D.str "k", .str "l", .str "to", .str "zzzzzzzz"]) (r := r) NmD hr.1 hr.2 (by
    intro d hd
    simp only [List.mem_cons, List.not_mem_nil, or_false] at hd
    rcases hd with rfl | rfl | rfl | rfl <;> exact nmD (by decide +kernel))
  refine ⟨s, g1, hs, b1, ?_⟩
  show mFun 1 1 (b__law_key (tab (k + 1))) [.loc n] g = _
  simp [mFun, b__law_key, permL, e1, lim4, ha, endR]
theorem f20 {n : Nat} (hb : HasBag n g) : ∃ i g', (0 ≤ i ∧ i ≤ 1000000) ∧ BF n g g' ∧ tab (k + 2) 20 [.loc n] g = .ok (.int i) g' := by
  obtain ⟨r1, g1, hr1, b1, e1⟩ := tk (k := k) (m := 12) hb (by decide) (by decide)
  obtain ⟨r2, g2, hr2, b2, e2⟩ := tk (k := k) (m := 40) b1.1 (by decide) (by decide)
  obtain ⟨r3, g3, hr3, b3, e3⟩ := tk (k := k) (m := 1000001) b2.1 (by decide) (by decide)
  obtain ⟨r4, g4, hr4, b4, e4⟩ := tk (k := k) (m := 9) b3.1 (by decide) (by decide)
  have p6 : powOk 10 6 = true := powOk_bd (by decide) (by decide) (by decide)
  have d4 : divOk 4 = true := divOk_bd (b := 4) (by decide) (by decide) (by decide) (by decide)
  have q : r4.fdiv 4 = r4 / 4 := Int.fdiv_eq_ediv_of_nonneg _ (by decide)
  obtain ⟨d, ⟨i, rfl, hi⟩, ha⟩ := pick_at (xs := [D.int r1, .int r2, .int r3]) (r := r4.fdiv 4) (fun d => ∃ i : Int, d = .int i ∧ 0 ≤ i ∧ i ≤ 1000000) (by omega) (by simp; omega) (by
    intro d hd
    simp only [List.mem_cons, List.not_mem_nil, or_false] at hd
    rcases hd with rfl | rfl | rfl <;> exact ⟨_, rfl, by omega, by omega⟩)
  refine ⟨i, g4, hi, ((b1.trans b2).trans b3).trans b4, ?_⟩
  show mFun 1 1 (b__law_moment (tab (k + 1))) [.loc n] g = _
  simp [mFun, b__law_moment, permL, e1, e2, p6, e3, e4, lim3, d4, ha, endR]
theorem f21 {n : Nat} {kind : Str} (hb : HasBag n g) (hk : kind = "number" ∨ kind = "word") : ∃ d g', CellK kind d ∧ BF n g g' ∧ tab (k + 3) 21 [.loc n, .str kind] g = .ok d g' := by
  obtain ⟨r1, g1, hr1, b1, e1⟩ := tk (k := k + 1) (m := 6) hb (by decide) (by decide)
  by_cases h0 : r1 = 0
  · refine ⟨.non, g1, .inl rfl, b1, ?_⟩
    show mFun 2 2 (b__law_cell (tab (k + 2))) [.loc n, .str kind] g = _
    simp [mFun, b__law_cell, permL, e1, h0, endR]
  rcases hk with rfl | rfl
  · have nw : ∀ {g : Gh}, cmpop .Eq (.str "number") (.str "word") g = .ok (.bl false) g := fun {g} => eqS_no (by decide +kernel)
    obtain ⟨r2, g2, hr2, b2, e2⟩ := tk (k := k + 1) (m := 9) b1.1 (by decide) (by decide)
    obtain ⟨r3, g3, hr3, b3, e3⟩ := tk (k := k + 1) (m := 2000001) b2.1 (by decide) (by decide)
    obtain ⟨r4, g4, hr4, b4, e4⟩ := tk (k := k + 1) (m := 8) b3.1 (by decide) (by decide)
    have p6 : powOk 10 6 = true := powOk_bd (by decide) (by decide) (by decide)
    have m2 : mulOk 2 1000000 = true := mulOk_left (by decide)
    have d7 : divOk 7 = true := divOk_bd (b := 4) (by decide) (by decide) (by decide) (by decide)
    have q : r4.fdiv 7 = r4 / 7 := Int.fdiv_eq_ediv_of_nonneg _ (by decide)
    obtain ⟨d, ⟨i, rfl, hi⟩, ha⟩ := pick_at (xs := [D.int (r2 - 4), .int (r3 - 1000000)]) (r := r4.fdiv 7) (fun d => ∃ i : Int, d = .int i ∧ -1000000 ≤ i ∧ i ≤ 1000000) (by omega) (by simp; omega) (by
      intro d hd
      simp only [List.mem_cons, List.not_mem_nil, or_false] at hd
      rcases hd with rfl | rfl <;> exact ⟨_, rfl, by omega, by omega⟩)
    refine ⟨.int i, g4, .inr (.inl ⟨rfl, i, rfl, hi⟩), ((b1.trans b2).trans b3).trans b4, ?_⟩
    show mFun 2 2 (b__law_cell (tab (k + 2))) [.loc n, .str "number"] g = _
    simp [mFun, b__law_cell, permL, e1, h0, nw, e2, p6, m2, e3, e4, lim2, d7, ha, endR]
  · obtain ⟨s, g2, hs, b2, e2⟩ := f19 (k := k) b1.1
    refine ⟨.str s, g2, .inr (.inr ⟨rfl, s, rfl, hs⟩), b1.trans b2, ?_⟩
    show mFun 2 2 (b__law_cell (tab (k + 2))) [.loc n, .str "word"] g = _
    simp [mFun, b__law_cell, permL, e1, h0, eqS_yes, e2, endR]
theorem compL_exZ {α β : Type} (encA : α → D) (encB : β → D) {tg : MG} {e : ME} {env : Env'} {n : Nat} (I : α → β → Prop) : ∀ xs : List α, (∀ x ∈ xs, ∃ env1, tg (encA x) env = some env1 ∧ ∀ g, HasBag n g → ∃ y g', I x y ∧ BF n g g' ∧ e env1 g = .ok (encB y) g') → ∀ g, HasBag n g →
    ∃ (zs : List (α × β)) (g' : Gh), zs.map (·.1) = xs ∧ (∀ z ∈ zs, I z.1 z.2) ∧ BF n g g' ∧ compL none tg tTrue e (xs.map encA) env g = .ok (zs.map fun z => encB z.2) g'
  | [], _, g, hg => ⟨[], g, rfl, (fun _ q => nomatch q), .refl hg, compL_nil⟩
  | x :: xs, h, g, hg => by
    obtain ⟨env1, ht, h1⟩ := h x List.mem_cons_self
    obtain ⟨y, g1, hy, b1, e1⟩ := h1 g hg
    obtain ⟨zs, g2, l, hzs, b2, e2⟩ := compL_exZ encA encB I xs (fun d hd => h d (List.mem_cons_of_mem _ hd)) g1 b1.1
    refine ⟨(x, y) :: zs, g2, by simp [l], ?_, b1.trans b2, ?_⟩
    · intro z hz
      rcases List.mem_cons.mp hz with rfl | hz
      · exact hy
      · exact hzs z hz
    · rw [List.map_cons, compL_cons, ht]
      simp only [tTrue_ap, if_true, e1, e2, List.map_cons]
noncomputable def restL (F : Nat → FM) : MS := sSeq (sIf (tV (eCmp .Eq (eCall (F 17) 2 0 [0, 1] [] (lCons (eLv 0) (lCons (eC (.int 6)) (lNil))) (lNil)) (eC (.int 0)))) (sRet (eTup (lCons (eC (.str "unsay")) (lCons (eLv 2) (lCons (eLv 4) (lCons (eLv 5) (lNil))))))) (sSkip)) (sSeq (sSet 6 (eBi oTuple (lCons (eNew (lComp (iV (eLv 3)) (gTp 2 (gsCons (gNm 7) (gsCons (gNm 8) (gsNil)))) (tTrue) (ce__law_letter_1 F) [7, 8])) (lNil)))) (sRet (eTup (lCons (eC (.str "say")) (lCons (eLv 2) (lCons (eLv 4) (lCons (eLv 5) (lCons (eCall (F 19) 1 0 [0] [] (lCons (eLv 0) (lNil)) (lNil)) (lCons (eCall (F 20) 1 0 [0] [] (lCons (eLv 0) (lNil)) (lNil)) (lCons (eLv 6) (lNil)))))))))))
theorem restL_ok {n : Nat} {ss : List Src} {l : Str} {cols : List (Str × Str)} {i j : Int} (hb : HasBag n g) (hc : ColsOk cols) :
    ∃ body g', BodyOk cols body ∧ BF n g g' ∧ restL (tab (k + 3)) [.val (.loc n), .val (.tup (ss.map encS)), .val (.str l), .val (.tup (cols.map encC)), .val (.int i), .val (.int j), .un, .un, .un] g = .rt (encL ⟨l, i, j, body⟩) g' := by
  obtain ⟨r1, g1, hr1, b1, e1⟩ := tk (k := k + 2) (m := 6) hb (by decide) (by decide)
  by_cases h0 : r1 = 0
  · refine ⟨none, g1, trivial, b1, ?_⟩
    simp [restL, permL, e1, h0, lim4, encL]
  obtain ⟨zs, g2, lc, hzs, b2, e2⟩ := compL_exZ encC (fun d : D => d) (tg := gTp 2 (gsCons (gNm 7) (gsCons (gNm 8) gsNil))) (e := ce__law_letter_1 (tab (k + 3))) (env := [.val (.loc n), .val (.tup (ss.map encS)), .val (.str l), .val (.tup (cols.map encC)), .val (.int i), .val (.int j), .un, .un, .un]) (n := n) (fun q d => CellK q.2 d) cols (fun q hq => by
    refine ⟨_, rfl, fun g hg => ?_⟩
    obtain ⟨x, g', hx, b', e⟩ := f21 (k := k) hg (hc.kd q hq)
    refine ⟨x, g', hx, b', ?_⟩
    simp [ce__law_letter_1, permL, e]) g1 b1.1
  obtain ⟨key, g3, hk, b3, e3⟩ := f19 (k := k + 1) b2.1
  obtain ⟨m, g4, hm, b4, e4⟩ := f20 (k := k + 1) b3.1
  have hi := hc.hi
  have lz : zs.length = cols.length := by rw [← lc, List.length_map]
  have lm : zs.length ≤ LIM := Nat.le_trans (by omega : _ ≤ 3) (by decide)
  have l7 : (7 : Nat) ≤ LIM := by decide
  refine ⟨some (key, m, zs.map (·.2)), g4, ⟨hk, hm.1, hm.2, zs, lc.symm, rfl, hzs⟩, ((b1.trans b2).trans b3).trans b4, ?_⟩
  simp [restL, permL, e1, h0, blkE, wipeE, hideS, e2, lm, oTuple, seqD, e3, e4, l7, encL]
theorem f22 {n : Nat} {ss : List Src} (hb : HasBag n g) (hs : SsOk ss) : ∃ l g', LetOk ss l ∧ BF n g g' ∧ tab (k + 4) 22 [.loc n, .tup (ss.map encS)] g = .ok (encL l) g' := by
  have hlo := hs.lo
  have hhi := hs.hi
  obtain ⟨r1, g1, hr1, b1, e1⟩ := tk (k := k + 2) (m := ss.length) hb (by omega) (by show Int.natAbs _ < 2 ^ 64; omega)
  obtain ⟨dd, ⟨⟨l, cols⟩, rfl, hp⟩, ha⟩ := pick_at (xs := ss.map encS) (r := r1) (fun d => ∃ p, d = encS p ∧ p ∈ ss) hr1.1 (by simpa using hr1.2) (by
    intro d hd
    obtain ⟨p, hp, rfl⟩ := List.mem_map.mp hd
    exact ⟨p, rfl, hp⟩)
  obtain ⟨r2, g2, hr2, b2, e2⟩ := tk (k := k + 2) (m := 6) b1.1 (by decide) (by decide)
  obtain ⟨r3, g3, hr3, b3, e3⟩ := tk (k := k + 2) (m := 3) b2.1 (by decide) (by decide)
  obtain ⟨body, g4, hbo, b4, e4⟩ := restL_ok (k := k) (ss := ss) (l := l) (cols := cols) (i := 1 + r2) (j := 1 + r3) b3.1 (hs.co _ hp)
  have hen : encS (l, cols) = .tup [.str l, .tup (cols.map encC)] := rfl
  refine ⟨⟨l, 1 + r2, 1 + r3, body⟩, g4, ⟨cols, hp, by simp only; omega, by simp only; omega, by simp only; omega, by simp only; omega, hbo⟩, ((b1.trans b2).trans b3).trans b4, ?_⟩
  show mFun 2 9 (b__law_letter (tab (k + 3))) [.loc n, .tup (ss.map encS)] g = _
  have : mFun 2 9 (b__law_letter (tab (k + 3))) [.loc n, .tup (ss.map encS)] g = endR (restL (tab (k + 3)) [.val (.loc n), .val (.tup (ss.map encS)), .val (.str l), .val (.tup (cols.map encC)), .val (.int (1 + r2)), .val (.int (1 + r3)), .un, .un, .un] g3) := by
    simp [mFun, b__law_letter, permL, e1, ha, hen, gSq, itsD, e2, e3]
    rfl
  rw [this, e4]; rfl
/-! ### letters as plain data -/
theorem ok_encL {ss : List Src} {l : LT} (hs : SsOk ss) (h : LetOk ss l) {m : Nat} : okD (encL l) (m + 2) = true := by
  obtain ⟨src, row, ver, body⟩ := l
  obtain ⟨cols, hm, _, _, _, _, hb⟩ := h
  have h1 : PyData.strOk src = true := (hs.nm _ hm).sm.2
  have u1 : PyData.strOk "unsay" = true := sOk_of _
  have u2 : PyData.strOk "say" = true := sOk_of _
  cases body with
  | none => simp only [encL, okD, okDs, h1, u1, Bool.and_true]
  | some b =>
    obtain ⟨key, mm, cs⟩ := b
    obtain ⟨hk, _, _, hcs⟩ := hb
    have h2 : PyData.strOk key = true := hk.sm.2
    have h3 : okDs cs m = true := by
      rw [okDs_all, List.all_eq_true]; exact fun c hc => ok_cell (hcs.cell c hc)
    simp only [encL, okD, okDs, h1, h2, h3, u2, Bool.and_true]
theorem fr_cell {d : D} (h : CellD d) : frD d = true := by
  rcases h with rfl | ⟨i, rfl, h⟩ | ⟨s, rfl, h⟩ <;> rfl
theorem pl_cell {d : D} (h : CellD d) : plD d = true := by
  rcases h with rfl | ⟨i, rfl, h⟩ | ⟨s, rfl, h⟩ <;> rfl
theorem frDs_of {xs : List D} (h : ∀ x ∈ xs, frD x = true) : frDs xs = true := by
  induction xs with
  | nil => rfl
  | cons x xs ih => simp only [frDs, h x (by simp), ih fun y hy => h y (List.mem_cons_of_mem _ hy), Bool.and_true]
theorem plDs_of {xs : List D} (h : ∀ x ∈ xs, plD x = true) : plDs xs = true := by
  induction xs with
  | nil => rfl
  | cons x xs ih => simp only [plDs, h x (by simp), ih fun y hy => h y (List.mem_cons_of_mem _ hy), Bool.and_true]
theorem fr_encL {ss : List Src} {l : LT} (h : LetOk ss l) : frD (encL l) = true := by
  obtain ⟨src, row, ver, body⟩ := l
  obtain ⟨cols, hm, _, _, _, _, hb⟩ := h
  cases body with
  | none => simp [encL, frD, frDs]
  | some b =>
    obtain ⟨key, mm, cs⟩ := b
    have h3 : frDs cs = true := frDs_of fun c hc => fr_cell (hb.2.2.2.cell c hc)
    simp [encL, frD, frDs, h3]
theorem pl_encL {ss : List Src} {l : LT} (h : LetOk ss l) : plD (encL l) = true := by
  obtain ⟨src, row, ver, body⟩ := l
  obtain ⟨cols, hm, _, _, _, _, hb⟩ := h
  cases body with
  | none => simp [encL, plD, plDs]
  | some b =>
    obtain ⟨key, mm, cs⟩ := b
    have h3 : plDs cs = true := plDs_of fun c hc => pl_cell (hb.2.2.2.cell c hc)
    simp [encL, plD, plDs, h3]
theorem eq_nilL {ds : List D} {g : Gh} (h : ∀ d ∈ ds, okD d 63 = true) : cmpop .Eq (.lst ds) (.lst []) g = .ok (.bl ds.isEmpty) g := by
  rw [eq_ap]
  simp only [deref_lst]
  have h1 : okD (.lst ds) 64 = true := by
    simp only [okD, okDs_all, List.all_eq_true]; exact h
  have h2 : okE (.lst ds) (.lst []) = true := by
    unfold okE; rw [h1]; rfl
  rw [h2]; cases ds <;> simp [eqD, eqDs]
theorem ne_nilL {ds : List D} {g : Gh} (h : ∀ d ∈ ds, okD d 63 = true) : cmpop .NotEq (.lst ds) (.lst []) g = .ok (.bl (!ds.isEmpty)) g := by
  rw [ne_ap]
  simp only [deref_lst]
  have h1 : okD (.lst ds) 64 = true := by
    simp only [okD, okDs_all, List.all_eq_true]; exact h
  have h2 : okE (.lst ds) (.lst []) = true := by
    unfold okE; rw [h1]; rfl
  rw [h2]; cases ds <;> simp [eqD, eqDs]
theorem f23 {n : Nat} {ss : List Src} (hb : HasBag n g) (hs : SsOk ss) : ∃ (ls : List LT) (g' : Gh), ls.length ≤ 40 ∧ (∀ l ∈ ls, LetOk ss l) ∧ BF n g g' ∧ tab (k + 5) 23 [.loc n, .tup (ss.map encS), .int 40] g = .ok (.lst (ls.map encL)) g' := by
  obtain ⟨r, g1, hr, b1, e1⟩ := tk (k := k + 3) (m := 41) hb (by decide) (by decide)
  obtain ⟨m, rfl⟩ : ∃ m : Nat, r = m := ⟨r.toNat, by omega⟩
  have rg : rngOk (m : Int) = true := rng_nat (by omega)
  obtain ⟨env', g', e3, ls, x4, hl, hls, b3, rfl⟩ := forL_ix (tg := gNm 4) (b := lp__law_letters_1 (tab (k + 4))) (fun j env g' => ∃ (ls : List LT) (x4 : Sl), ls.length = j ∧ (∀ l ∈ ls, LetOk ss l) ∧ BF n g g' ∧ env = [.val (.loc n), .val (.tup (ss.map encS)), .val (.int 40), .own (ls.map encL), x4]) (rangeD 0 m) 0 (by
    intro i d hd env gg ⟨ls, x4, hl, hls, bg, h⟩
    subst h
    have him : i < m := by
      have := (List.getElem?_eq_some_iff.mp hd).1
      rwa [rangeD_len] at this
    refine ⟨_, rfl, ?_⟩
    have hll : ls.length < LIM := Nat.lt_of_le_of_lt (by omega : _ ≤ 100) (by decide)
    have fr : frDs (ls.map encL) = true := frDs_of fun x hx => by
      obtain ⟨l, hl, rfl⟩ := List.mem_map.mp hx
      exact fr_encL (hls l hl)
    have nn := ne_nilL (g := []) (ds := ls.map encL) (fun x hx => by
      obtain ⟨l, hl, rfl⟩ := List.mem_map.mp hx
      exact ok_encL hs (hls l hl))
    obtain ⟨l, gl, hlo, bl, el⟩ := f22 (k := k) (ss := ss) bg.1 hs
    by_cases h0 : ls = []
    · subst h0
      refine ⟨[.val (.loc n), .val (.tup (ss.map encS)), .val (.int 40), .own ([l].map encL), .val d], gl, ?_, [l], _, by simp at hl ⊢; omega, by simpa using hlo, bg.trans bl, rfl⟩
      have nn0 : cmpop .NotEq (.lst []) (.lst []) [] = .ok (.bl false) [] := rfl
      have l0 : 0 < LIM := by decide
      simp [lp__law_letters_1, frDs, hidE, nn0, permL, el, l0]
    have h1 : (ls.map encL).isEmpty = false := by
      cases ls with
      | nil => exact absurd rfl h0
      | cons a b => rfl
    rw [h1] at nn
    have hpos : 0 < ls.length := List.length_pos_iff.mpr h0
    obtain ⟨r2, g2, hr2, b2, e2⟩ := tk (k := k + 3) (m := 6) bg.1 (by decide) (by decide)
    by_cases h6 : r2 = 0
    · obtain ⟨r3, g3, hr3, b3, e3⟩ := tk (k := k + 3) (m := ls.length) b2.1 (by omega) (by show Int.natAbs _ < 2 ^ 64; omega)
      obtain ⟨dd, ⟨l, rfl, hlm⟩, ha⟩ := pick_at (xs := ls.map encL) (r := r3) (fun d => ∃ l, d = encL l ∧ l ∈ ls) hr3.1 (by simpa using hr3.2) (by
        intro d hd
        obtain ⟨l, hl, rfl⟩ := List.mem_map.mp hd
        exact ⟨l, rfl, hl⟩)
      refine ⟨[.val (.loc n), .val (.tup (ss.map encS)), .val (.int 40), .own ((ls ++ [l]).map encL), .val d], g3, ?_, ls ++ [l], _, by simp [hl], ?_, (bg.trans b2).trans b3, rfl⟩
      · subst h6
        simp [lp__law_letters_1, fr, hidE, nn, permL, e2, isOwn, lenD, plD, e3, ownAt, ha, hll]
      · intro x hx
        rcases List.mem_append.mp hx with hx | hx
        · exact hls x hx
        · simp only [List.mem_cons, List.not_mem_nil, or_false] at hx
          subst hx; exact hls _ hlm
    · obtain ⟨l, gl, hlo, bl, el⟩ := f22 (k := k) (ss := ss) b2.1 hs
      refine ⟨[.val (.loc n), .val (.tup (ss.map encS)), .val (.int 40), .own ((ls ++ [l]).map encL), .val d], gl, ?_, ls ++ [l], _, by simp [hl], ?_, (bg.trans b2).trans bl, rfl⟩
      · simp [lp__law_letters_1, fr, hidE, nn, permL, e2, h6, el, hll]
      · intro x hx
        rcases List.mem_append.mp hx with hx | hx
        · exact hls x hx
        · simp only [List.mem_cons, List.not_mem_nil, or_false] at hx
          subst hx; exact hlo) _ _ ⟨[], .un, rfl, by simp, b1, rfl⟩
  rw [rangeD_len, Nat.zero_add] at hl
  refine ⟨ls, g', by omega, hls, b3, ?_⟩
  show mFun 3 5 (b__law_letters (tab (k + 4))) [.loc n, .tup (ss.map encS), .int 40] g = _
  simp only [List.map_nil] at e3
  simp [mFun, b__law_letters, permL, e1, rg, e3, endR]
/-! ### sources -/
theorem f18 {n : Nat} (hb : HasBag n g) : ∃ ss g', SsOk ss ∧ HasBag n g' ∧ tab (k + 2) 18 [.loc n] g = .ok (.tup (ss.map encS)) g' := by
  obtain ⟨r1, g1, hr1, b1, e1⟩ := tk (k := k) (m := 3) hb (by decide) (by decide)
  obtain ⟨r2, g2, hr2, b2, e2⟩ := tk (k := k) (m := 3) b1.1 (by decide) (by decide)
  obtain ⟨d, ⟨a, b, rfl, sa, sb, hnd⟩, ha⟩ := pick_at (xs := [D.lst [.str "c", .str "say"], .lst [.str "k", .str "aab"], .lst [.str "abcdefgh", .str "abcdefgi"]]) (r := r1) (fun d => ∃ a b, d = .lst [.str a, .str b] ∧ Nm a ∧ Nm b ∧ (["ab", a, b] : List Str).Nodup) hr1.1 (by simpa using hr1.2) (by
    intro d hd
    simp only [List.mem_cons, List.not_mem_nil, or_false] at hd
    rcases hd with rfl | rfl | rfl <;> exact ⟨_, _, rfl, by decide +kernel, by decide +kernel, by decide +kernel⟩)
  have hcut : ∃ ls : List Str, cutD [.str a, .str b] none (some r2) = ls.map D.str ∧ ls.length ≤ 2 ∧ (∀ l ∈ ls, Nm l) ∧ (("ab" : Str) :: ls).Nodup := by
    have : r2 = 0 ∨ r2 = 1 ∨ r2 = 2 := by omega
    rcases this with rfl | rfl | rfl
    · exact ⟨[], rfl, by simp, by simp, by simp⟩
    · refine ⟨[a], rfl, by simp, by simpa using sa, ?_⟩
      simp at hnd ⊢; exact hnd.1.1
    · exact ⟨[a, b], rfl, by simp, by simpa using ⟨sa, sb⟩, hnd⟩
  obtain ⟨ls, ec, hl, hls, hnl⟩ := hcut
  have s0 : D.tup [.str "ab", .tup [.tup [.str "x", .str "number"], .tup [.str "to", .str "word"]]] = encS src0 := rfl
  obtain ⟨env', g', e3, r, x3, x4, x5, hr, hrs, hb', rfl⟩ := forL_ix (tg := gNm 3) (b := lp__law_sources_2 (tab (k + 1))) (fun j env g => ∃ (r : List Src) (x3 x4 x5 : Sl), r.map (·.1) = ls.take j ∧ (∀ p ∈ r, ColsOk p.2) ∧ HasBag n g ∧ env = [.val (.loc n), .val (.lst [.str "number", .str "word"]), .own ((src0 :: r).map encS), x3, x4, x5]) (ls.map D.str) 0 (by
    intro i d hd env g ⟨r, x3, x4, x5, hr, hrs, hbg, h⟩
    subst h
    have hi : i < ls.length := by have := (List.getElem?_eq_some_iff.mp hd).1; simpa using this
    have hd' : d = .str ls[i] := by
      rw [List.getElem?_map, List.getElem?_eq_getElem hi] at hd; exact (Option.some.inj hd).symm
    subst hd'
    rw [Nat.zero_add] at hr
    have hrl : r.length = i := by
      have := congrArg List.length hr
      rw [List.length_map, List.length_take] at this; omega
    obtain ⟨q0, g0, hq0, ⟨hb0, _⟩, e0⟩ := tk (k := k) (m := 2) hbg (by decide) (by decide)
    obtain ⟨dl, ⟨la, lb, lc, rfl, sla, slb, slc, snd⟩, hal⟩ := pick_at (xs := [D.lst [.str "x", .str "y", .str "z"], .lst [.str "abcdefgh", .str "abcdefgi", .str "k"]]) (r := q0) (fun d => ∃ a b c, d = .lst [.str a, .str b, .str c] ∧ Nm a ∧ Nm b ∧ Nm c ∧ [a, b, c].Nodup) hq0.1 (by simpa using hq0.2) (by
      intro d hd
      simp only [List.mem_cons, List.not_mem_nil, or_false] at hd
      rcases hd with rfl | rfl <;> exact ⟨_, _, _, rfl, by decide +kernel, by decide +kernel, by decide +kernel, by decide +kernel⟩)
    obtain ⟨q, ga, hq, ⟨hba, _⟩, ea⟩ := tk (k := k) (m := 3) hb0 (by decide) (by decide)
    obtain ⟨m, hm⟩ : ∃ m : Nat, 1 + q = m := ⟨(1 + q).toNat, by omega⟩
    have rg : rngOk (m : Int) = true := rng_nat (by omega)
    have hlab : ∀ z : Nat, z < 3 → ∃ s, [la, lb, lc][z]? = some s ∧ Nm s ∧ atI [D.str la, .str lb, .str lc] (z : Int) = some (.str s) := by
      intro z hz
      have : z = 0 ∨ z = 1 ∨ z = 2 := by omega
      rcases this with rfl | rfl | rfl
      · exact ⟨la, rfl, sla, rfl⟩
      · exact ⟨lb, rfl, slb, rfl⟩
      · exact ⟨lc, rfl, slc, rfl⟩
    obtain ⟨zs, gb, lz, hzs, ⟨hbb, _⟩, eb⟩ := compL_exZ (fun z : Nat => D.int ((0 : Int) + z)) encC (tg := gNm 5) (e := ce__law_sources_1 (tab (k + 1))) (env := [.val (.loc n), .val (.lst [.str "number", .str "word"]), .un, .val (.str ls[i]), .val (.lst [.str la, .str lb, .str lc]), .un]) (n := n) (fun z c => [la, lb, lc][z]? = some c.1 ∧ Nm c.1 ∧ (c.2 = "number" ∨ c.2 = "word")) (List.range m) (fun z hz => by
      refine ⟨_, rfl, fun g hg => ?_⟩
      have hz' := List.mem_range.mp hz
      obtain ⟨s, hs1, hs2, hs3⟩ := hlab z (by omega)
      obtain ⟨t, gt, ht, bt, et⟩ := tk (k := k) (m := 2) hg (by decide) (by decide)
      obtain ⟨kd, ⟨ks, rfl, hks⟩, hk⟩ := pick_at (xs := [D.str "number", .str "word"]) (r := t) (fun d => ∃ s : Str, d = .str s ∧ (s = "number" ∨ s = "word")) ht.1 (by simpa using ht.2) (by
        intro d hd
        simp only [List.mem_cons, List.not_mem_nil, or_false] at hd
        rcases hd with rfl | rfl
        · exact ⟨_, rfl, .inl rfl⟩
        · exact ⟨_, rfl, .inr rfl⟩)
      refine ⟨(s, ks), gt, ⟨hs1, hs2, hks⟩, bt, ?_⟩
      simp [ce__law_sources_1, hs3, permL, et, hk, lim2, encC]) ga hba
    have lzl : zs.length = m := by rw [← List.length_map (f := fun z : Nat × (Str × Str) => z.1), lz, List.length_range]
    have hco : ColsOk (zs.map (·.2)) := by
      refine ⟨by rw [List.length_map]; omega, by rw [List.length_map]; omega, ?_, ?_, ?_⟩
      · intro q hq
        obtain ⟨z, hz, rfl⟩ := List.mem_map.mp hq
        exact (hzs z hz).2.1
      · intro q hq
        obtain ⟨z, hz, rfl⟩ := List.mem_map.mp hq
        exact (hzs z hz).2.2
      · have h1 : (zs.map (·.2)).map (·.1) = [la, lb, lc].take m := by
          have h2 : (zs.map (·.2)).map (fun c : Str × Str => some c.1) = (List.range m).map fun z => [la, lb, lc][z]? := by
            rw [← lz, List.map_map, List.map_map]
            exact List.map_congr_left fun z hz => (hzs z hz).1.symm
          have h3 : ((zs.map (·.2)).map (·.1)).map some = ([la, lb, lc].take m).map some := by
            rw [List.map_map]
            refine Eq.trans h2 ?_
            have : m = 1 ∨ m = 2 ∨ m = 3 := by omega
            rcases this with rfl | rfl | rfl <;> rfl
          exact (List.map_inj_right (fun a b h => Option.some.inj h)).mp h3
        rw [h1]
        exact snd.sublist (List.take_sublist _ _)
    refine ⟨_, rfl, [.val (.loc n), .val (.lst [.str "number", .str "word"]), .own ((src0 :: (r ++ [(ls[i], zs.map (·.2))])).map encS), .val (.str ls[i]), .val (.lst [.str la, .str lb, .str lc]), x5], gb, ?_, r ++ [(ls[i], zs.map (·.2))], _, _, _, ?_, ?_, hbb, rfl⟩
    · have ll : r.length + 1 < LIM := Nat.lt_of_le_of_lt (by omega : _ ≤ 100) (by decide)
      have lm : zs.length ≤ LIM := Nat.le_trans (by omega : _ ≤ 100) (by decide)
      have rd : rangeD 0 m = (List.range m).map fun z : Nat => D.int ((0 : Int) + z) := rfl
      rw [← rd] at eb
      simp [lp__law_sources_2, permL, e0, lim3, lim2, hal, ea, hm, rg, blkE, wipeE, hideS]
      simp [eb, lm, oTuple, seqD, ll, encS, lim2, Function.comp_def]
    · rw [List.map_append, hr]
      rw [Nat.zero_add, List.take_add_one, List.getElem?_eq_getElem hi]; rfl
    · intro p hp
      rcases List.mem_append.mp hp with hp | hp
      · exact hrs p hp
      · simp only [List.mem_cons, List.not_mem_nil, or_false] at hp
        subst hp; exact hco) _ _ ⟨[], .un, .un, .un, by simp, by simp, b2.1, rfl⟩
  have hr' : r.map (·.1) = ls := by rw [hr]; simp
  have hrl : r.length = ls.length := by rw [← hr', List.length_map]
  refine ⟨src0 :: r, g', ⟨by simp, by simp; omega, ?_, ?_, ?_⟩, hb', ?_⟩
  · intro p hp
    rcases List.mem_cons.mp hp with rfl | hp
    · decide +kernel
    · exact hls _ (hr' ▸ List.mem_map_of_mem hp)
  · intro p hp
    rcases List.mem_cons.mp hp with rfl | hp
    · exact ⟨by decide, by decide, by decide +kernel, by decide +kernel, by decide +kernel⟩
    · exact hrs p hp
  · rw [List.map_cons, hr']; exact hnl
  show mFun 1 6 (b__law_sources (tab (k + 1))) [.loc n] g = _
  simp only [List.map_cons, List.map_nil] at e3
  have l1 : (1 : Nat) ≤ LIM := by decide
  simp [mFun, b__law_sources, permL, e1, l1, lim2, lim3, ha, e2, ec, s0, e3, oTuple, seqD, endR]
end
end LW

namespace LW
open PySem L2 GL
section
variable {k : Nat} {g : Gh}
theorem ltT_cons {x y : D} {xs ys : List D} {n m : Nat} (hx : okD x n = true) (hy : okD y m = true) : ltT (.tup (x :: xs)) (.tup (y :: ys)) = if eqD x y = true then ltT (.tup xs) (.tup ys) else ltT x y := by
  simp only [ltT, toP, toPs, ltPy, ltPys]
  rw [eqv_eqD x y n m hx hy]
theorem ltT_nil : ltT (.tup []) (.tup []) = some false := by simp only [ltT, toP, toPs, ltPy, ltPys]
theorem ltT_int {i j : Int} : ltT (.int i) (.int j) = some (decide (i < j)) := by simp only [ltT, toP, ltPy]
theorem ltT_str {x y : Str} : ltT (.str x) (.str y) = some (decide (x.cps.toList < y.cps.toList)) := by simp only [ltT, toP, ltPy]
def wC : D → D
  | .non => .tup [.int 0, .int 0]
  | d => .tup [.int 1, d]
def wL (l : LT) : D := match l.body with
  | none => .tup [.int l.ver, .int 1]
  | some (key, m, cs) => .tup [.int l.ver, .int 0, .str key, .int m, .tup (cs.map wC)]
def ltCell : D → D → Bool
  | .int i, .int j => decide (i < j)
  | .str x, .str y => decide (x.cps.toList < y.cps.toList)
  | _, _ => false
def lessC (x y : D) : Bool := GL.isNon x || (!GL.isNon y && ltCell x y)
def lessCs : List D → List D → Bool
  | x :: xs, y :: ys => if eqD x y = true then lessCs xs ys else lessC x y
  | _, _ => false
def lessL (a b : LT) : Bool := if a.ver = b.ver then (match a.body, b.body with
  | none, none => false
  | some _, none => true
  | none, some _ => false
  | some (k1, m1, c1), some (k2, m2, c2) => if k1 = k2 then (if m1 = m2 then lessCs c1 c2 else decide (m1 < m2)) else decide (k1.cps.toList < k2.cps.toList)) else decide (a.ver < b.ver)
theorem str_beq {x y : Str} : (x == y) = decide (x = y) := by
  by_cases h : x = y
  · simp [h]
  · simp [h]
theorem cell_pair {kind : Str} {x y : D} (hx : CellK kind x) (hy : CellK kind y) : eqD (wC x) (wC y) = eqD x y ∧ (eqD x y = false → ltT (wC x) (wC y) = some (lessC x y)) := by
  have o1 : ∀ i : Int, okD (.int i) 5 = true := fun _ => rfl
  rcases hx with rfl | ⟨rfl, i, rfl, _, _⟩ | ⟨rfl, s, rfl, hs⟩
  · rcases hy with rfl | ⟨_, j, rfl, _, _⟩ | ⟨_, t, rfl, ht⟩
    · exact ⟨rfl, fun h => by simp [eqD] at h⟩
    · refine ⟨by simp [wC, eqD, eqDs], fun _ => ?_⟩
      simp only [wC]; rw [ltT_cons (o1 _) (o1 _)]; simp [eqD, ltT_int, lessC, GL.isNon]
    · refine ⟨by simp [wC, eqD, eqDs], fun _ => ?_⟩
      simp only [wC]; rw [ltT_cons (o1 _) (o1 _)]; simp [eqD, ltT_int, lessC, GL.isNon]
  · rcases hy with rfl | ⟨_, j, rfl, _, _⟩ | ⟨q, t, rfl, ht⟩
    · refine ⟨by simp [wC, eqD, eqDs], fun _ => ?_⟩
      simp only [wC]; rw [ltT_cons (o1 _) (o1 _)]; simp [eqD, ltT_int, lessC, GL.isNon]
    · refine ⟨by simp [wC, eqD, eqDs], fun h => ?_⟩
      simp only [wC]; rw [ltT_cons (o1 _) (o1 _), if_pos (by simp [eqD]), ltT_cons (o1 _) (o1 _), h]; simp [ltT_int, lessC, GL.isNon, ltCell]
    · exact absurd q (by decide +kernel)
  · have os : okD (.str s) 5 = true := by simpa only [okD] using hs.sm.2
    rcases hy with rfl | ⟨q, j, rfl, _, _⟩ | ⟨q, t, rfl, ht⟩
    · refine ⟨by simp [wC, eqD, eqDs], fun _ => ?_⟩
      simp only [wC]; rw [ltT_cons (o1 _) (o1 _)]; simp [eqD, ltT_int, lessC, GL.isNon]
    · exact absurd q (by decide +kernel)
    · have ot : okD (.str t) 5 = true := by simpa only [okD] using ht.sm.2
      refine ⟨by simp [wC, eqD, eqDs], fun h => ?_⟩
      simp only [wC]; rw [ltT_cons (o1 _) (o1 _), if_pos (by simp [eqD]), ltT_cons os ot, h]; simp [ltT_str, lessC, GL.isNon, ltCell]
theorem ok_wC {d : D} (h : CellD d) {n : Nat} : okD (wC d) (n + 1) = true := by
  have := ok_cell (n := n) h
  rcases h with rfl | ⟨i, rfl, h⟩ | ⟨s, rfl, h⟩ <;> simp only [wC, okD, okDs, Bool.and_true] at this ⊢
  exact this
theorem lt_cells : ∀ zs ws : Zs, zs.map (·.1) = ws.map (·.1) → (∀ z ∈ zs, CellK z.1.2 z.2) → (∀ z ∈ ws, CellK z.1.2 z.2) → ltT (.tup ((zs.map (·.2)).map wC)) (.tup ((ws.map (·.2)).map wC)) = some (lessCs (zs.map (·.2)) (ws.map (·.2)))
  | [], [], _, _, _ => ltT_nil
  | [], _ :: _, h, _, _ => by simp at h
  | _ :: _, [], h, _, _ => by simp at h
  | z :: zs, w :: ws, h, h1, h2 => by
    simp only [List.map_cons, List.cons.injEq] at h ⊢
    have c1 := h1 z (by simp)
    have c2 := h2 w (by simp)
    have p := cell_pair c1 (by rw [h.1]; exact c2)
    rw [ltT_cons (ok_wC (n := 5) c1.cell) (ok_wC (n := 5) c2.cell), p.1, lessCs]
    by_cases q : eqD z.2 w.2 = true
    · rw [if_pos q, if_pos q]
      exact lt_cells zs ws h.2 (fun x hx => h1 x (List.mem_cons_of_mem _ hx)) (fun x hx => h2 x (List.mem_cons_of_mem _ hx))
    · rw [if_neg q, if_neg q]
      exact p.2 (by simpa using q)
theorem same_cols {ss : List Src} (hs : SsOk ss) {l : Str} {c1 c2 : List (Str × Str)} (h1 : (l, c1) ∈ ss) (h2 : (l, c2) ∈ ss) : c1 = c2 := by
  have nd := hs.nd
  clear hs
  induction ss with
  | nil => simp at h1
  | cons p ss ih =>
    simp only [List.map_cons, List.nodup_cons] at nd
    rcases List.mem_cons.mp h1 with h1 | h1 <;> rcases List.mem_cons.mp h2 with h2 | h2
    · rw [← h2] at h1; exact (Prod.mk.inj h1).2
    · exact absurd (List.mem_map_of_mem (f := (·.1)) h2) (by rw [← h1] at nd; exact nd.1)
    · exact absurd (List.mem_map_of_mem (f := (·.1)) h1) (by rw [← h2] at nd; exact nd.1)
    · exact ih h1 h2 nd.2
/-- weights are ordered as letters are -/
theorem lt_wL {ss : List Src} {a b : LT} (hs : SsOk ss) (ha : LetOk ss a) (hb : LetOk ss b) (he : a.src = b.src) : ltT (wL a) (wL b) = some (lessL a b) := by
  obtain ⟨s1, r1, v1, b1⟩ := a
  obtain ⟨s2, r2, v2, b2⟩ := b
  obtain ⟨cols, hm, _, _, _, _, hb1⟩ := ha
  obtain ⟨cols2, hm2, _, _, _, _, hb2⟩ := hb
  simp only at he hm hm2 hb1 hb2
  subst he
  have := same_cols hs hm hm2
  subst this
  have o1 : ∀ i : Int, okD (.int i) 5 = true := fun _ => rfl
  have ei : ∀ i j : Int, eqD (.int i) (.int j) = decide (i = j) := fun i j => by simp [eqD]; rfl
  cases b1 with
  | none =>
    cases b2 with
    | none =>
      simp only [wL, lessL]
      rw [ltT_cons (o1 _) (o1 _), ei, ltT_cons (o1 _) (o1 _), ei, ltT_nil, ltT_int]
      by_cases q : v1 = v2 <;> simp [q, ltT_int]
    | some x =>
      obtain ⟨k2, m2, c2⟩ := x
      simp only [wL, lessL]
      rw [ltT_cons (o1 _) (o1 _), ei, ltT_cons (o1 _) (o1 _), ei, ltT_int, ltT_int]
      by_cases q : v1 = v2 <;> simp [q, ltT_int]
  | some y =>
    obtain ⟨k1, m1, c1⟩ := y
    cases b2 with
    | none =>
      simp only [wL, lessL]
      rw [ltT_cons (o1 _) (o1 _), ei, ltT_cons (o1 _) (o1 _), ei, ltT_int, ltT_int]
      by_cases q : v1 = v2 <;> simp [q, ltT_int]
    | some x =>
      obtain ⟨k2, m2, c2⟩ := x
      obtain ⟨hk1, _, _, zs, hz1, rfl, hz⟩ := hb1
      obtain ⟨hk2, _, _, ws, hw1, rfl, hw⟩ := hb2
      have ok1 : okD (.str k1) 5 = true := by simpa only [okD] using hk1.sm.2
      have ok2 : okD (.str k2) 5 = true := by simpa only [okD] using hk2.sm.2
      have es : eqD (.str k1) (.str k2) = decide (k1 = k2) := by simp only [eqD, str_beq]
      have oz : okD (.tup ((zs.map (·.2)).map wC)) 6 = true := by
        simp only [okD, okDs_all, List.all_eq_true]
        intro d hd
        obtain ⟨c, hc, rfl⟩ := List.mem_map.mp hd
        obtain ⟨z, hz', rfl⟩ := List.mem_map.mp hc
        exact ok_wC (n := 4) (hz z hz').cell
      have ow : okD (.tup ((ws.map (·.2)).map wC)) 6 = true := by
        simp only [okD, okDs_all, List.all_eq_true]
        intro d hd
        obtain ⟨c, hc, rfl⟩ := List.mem_map.mp hd
        obtain ⟨z, hz', rfl⟩ := List.mem_map.mp hc
        exact ok_wC (n := 4) (hw z hz').cell
      have lc := lt_cells zs ws (hz1.symm.trans hw1) hz hw
      have lf : ltT (.tup [.tup ((zs.map (·.2)).map wC)]) (.tup [.tup ((ws.map (·.2)).map wC)]) = some (lessCs (zs.map (·.2)) (ws.map (·.2))) := by
        rw [ltT_cons oz ow]
        by_cases q : eqD (.tup ((zs.map (·.2)).map wC)) (.tup ((ws.map (·.2)).map wC)) = true
        · rw [if_pos q, ltT_nil]
          have same : ∀ zs ws : Zs, zs.map (·.1) = ws.map (·.1) → (∀ z ∈ zs, CellK z.1.2 z.2) → (∀ z ∈ ws, CellK z.1.2 z.2) → eqDs ((zs.map (·.2)).map wC) ((ws.map (·.2)).map wC) = true → lessCs (zs.map (·.2)) (ws.map (·.2)) = false := by
            intro zs
            induction zs with
            | nil => intro ws h _ _ _; cases ws <;> simp [lessCs]
            | cons z zs ih =>
              intro ws h h1 h2 hq
              cases ws with
              | nil => simp [lessCs]
              | cons w ws =>
                simp only [List.map_cons, List.cons.injEq] at h hq ⊢
                simp only [eqDs, Bool.and_eq_true] at hq
                have c1 := h1 z (by simp)
                have c2 := h2 w (by simp)
                have p := cell_pair c1 (by rw [h.1]; exact c2)
                rw [p.1] at hq
                rw [lessCs, if_pos hq.1]
                exact ih ws h.2 (fun x hx => h1 x (List.mem_cons_of_mem _ hx)) (fun x hx => h2 x (List.mem_cons_of_mem _ hx)) hq.2
          rw [same zs ws (hz1.symm.trans hw1) hz hw (by simpa only [eqD] using q)]
        · rw [if_neg q]; exact lc
      simp only [wL, lessL]
      rw [ltT_cons (o1 _) (o1 _), ei, ltT_cons (o1 _) (o1 _), ei, ltT_int, ltT_cons ok1 ok2, es, ltT_str, ltT_cons (o1 _) (o1 _), ei, ltT_int, lf]
      by_cases q : v1 = v2
      · by_cases q2 : k1 = k2
        · by_cases q3 : m1 = m2 <;> simp [q, q2, q3]
        · simp [q, q2]
      · simp [q, ltT_int]
theorem f11 {ss : List Src} {l : LT} (hs : SsOk ss) (h : LetOk ss l) : tab (k + 1) 11 [encL l] g = .ok (wL l) g := by
  show mFun 1 10 (b_letter_weight (tab k)) [encL l] g = _
  obtain ⟨src, row, ver, body⟩ := l
  obtain ⟨cols, hm, _, _, _, _, hb⟩ := h
  have l7 : (7 : Nat) ≤ LIM := by decide
  have l0 : (0 : Nat) ≤ LIM := by decide
  cases body with
  | none =>
    simp [mFun, b_letter_weight, encL, gSt, itsD, lim4, lim2, l0, v_UNSAY, eqS_yes, wL, endR]
  | some b =>
    obtain ⟨key, m, cs⟩ := b
    obtain ⟨hk, _, _, hcs⟩ := hb
    have n0 : ∀ g, cmpop .Eq (.str "say") (.str "unsay") g = .ok (.bl false) g := fun g => eqS_no (by decide +kernel)
    have lcs : cs.length ≤ LIM := by
      obtain ⟨zs, rfl, rfl, h⟩ := hcs
      have := (hs.co _ hm).hi
      simp only [List.length_map] at this ⊢
      exact Nat.le_trans this (by decide)
    have e := compL_mapA (tg := gNm 9) (e := ce_letter_weight_1 (tab k)) (env := [.val (.tup [.str "say", .str src, .int row, .int ver, .str key, .int m, .tup cs]), .val (.str "say"), .val (.str src), .val (.int row), .val (.int ver), .val (.lst [.str key, .int m, .tup cs]), .val (.str key), .val (.int m), .val (.tup cs), .un]) (g := g) (fun d : D => d) wC cs (fun d hd => by
      refine ⟨_, rfl, ?_⟩
      rcases hcs.cell d hd with rfl | ⟨i, rfl, h⟩ | ⟨s, rfl, h⟩ <;> simp [ce_letter_weight_1, GL.isNon, lim2, wC])
    rw [List.map_id'] at e
    simp [mFun, b_letter_weight, encL, gSt, gSq, itsD, l7, lim3, lim5, l0, v_UNSAY, n0, blkE, wipeE, hideS, e, lcs, oTuple, seqD, wL, endR]
theorem ok_wL {ss : List Src} {l : LT} (hs : SsOk ss) (h : LetOk ss l) : okD (wL l) 64 = true := by
  obtain ⟨src, row, ver, body⟩ := l
  obtain ⟨cols, hm, _, _, _, _, hb⟩ := h
  cases body with
  | none => simp only [wL, okD, okDs, Bool.and_true]
  | some b =>
    obtain ⟨key, mm, cs⟩ := b
    obtain ⟨hk, _, _, hcs⟩ := hb
    have h2 : PyData.strOk key = true := hk.sm.2
    have h3 : okDs (cs.map wC) 62 = true := by
      rw [okDs_all, List.all_eq_true]
      intro d hd
      obtain ⟨c, hc, rfl⟩ := List.mem_map.mp hd
      exact ok_wC (hcs.cell c hc)
    simp only [wL, okD, okDs, h2, h3, Bool.and_true]
theorem less_loop (k : Nat) (g : Gh) (va vb : Sl) : ∀ (zs ws : Zs), zs.map (·.1) = ws.map (·.1) → (∀ z ∈ zs, CellK z.1.2 z.2) → (∀ z ∈ ws, CellK z.1.2 z.2) → ∀ x2 x3 : Sl,
    forL none (gTp 2 (gsCons (gNm 2) (gsCons (gNm 3) gsNil))) (lp__law_less_1 (tab k)) (zipD (zs.map (·.2)) (ws.map (·.2))) [va, vb, x2, x3] g = .rt (.bl (lessCs (zs.map (·.2)) (ws.map (·.2)))) g ∨
    ∃ y2 y3, forL none (gTp 2 (gsCons (gNm 2) (gsCons (gNm 3) gsNil))) (lp__law_less_1 (tab k)) (zipD (zs.map (·.2)) (ws.map (·.2))) [va, vb, x2, x3] g = .nx [va, vb, y2, y3] g ∧ lessCs (zs.map (·.2)) (ws.map (·.2)) = false
  | [], ws, _, _, _, x2, x3 => .inr ⟨x2, x3, by simp only [List.map_nil, zipD]; exact forL_nil, by simp [lessCs]⟩
  | _ :: _, [], h, _, _, _, _ => by simp at h
  | z :: zs, w :: ws, h, h1, h2, x2, x3 => by
    simp only [List.map_cons, List.cons.injEq] at h ⊢
    have c1 := h1 z (by simp)
    have c2 := h2 w (by simp)
    rw [h.1] at c1
    have d1 : deref g z.2 = z.2 := by rcases c1.cell with e | ⟨i, e, _⟩ | ⟨s, e, _⟩ <;> rw [e] <;> rfl
    have d2 : deref g w.2 = w.2 := by rcases c2.cell with e | ⟨i, e, _⟩ | ⟨s, e, _⟩ <;> rw [e] <;> rfl
    have nq : cmpop .NotEq z.2 w.2 g = .ok (.bl (!eqD z.2 w.2)) g := by
      rw [ne_ap]
      rw [d1, d2, okE_ok (ok_cell c1.cell) (ok_cell c2.cell)]; rfl
    simp only [zipD]
    rw [forL_cons, lessCs]
    by_cases q : eqD z.2 w.2 = true
    · have e1 : lp__law_less_1 (tab k) [va, vb, .val z.2, .val w.2] g = .nx [va, vb, .val z.2, .val w.2] g := by
        simp [lp__law_less_1, nq, q]
      rcases less_loop k g va vb zs ws h.2 (fun x hx => h1 x (List.mem_cons_of_mem _ hx)) (fun x hx => h2 x (List.mem_cons_of_mem _ hx)) (.val z.2) (.val w.2) with e | ⟨y2, y3, e, e2⟩
      · refine .inl ?_
        simp [e1, e, q]
      · refine .inr ⟨y2, y3, ?_, by simpa [q] using e2⟩
        simp [e1, e]
    · refine .inl ?_
      have e1 : lp__law_less_1 (tab k) [va, vb, .val z.2, .val w.2] g = .rt (.bl (lessC z.2 w.2)) g := by
        have q' : eqD z.2 w.2 = false := by simpa using q
        rw [q'] at nq
        have ltS : ∀ s t : Str, cmpop .Lt (.str s) (.str t) g = .ok (.bl (decide (s.cps.toList < t.cps.toList))) g := fun _ _ => rfl
        have fin : ∀ x y : D, deref g x = x → deref g y = y → cmpop .NotEq x y g = .ok (.bl true) g → (x = .non ∨ y = .non ∨ cmpop .Lt x y g = .ok (.bl (ltCell x y)) g) → lp__law_less_1 (tab k) [va, vb, .val x, .val y] g = .rt (.bl (lessC x y)) g := by
          intro x y d1 d2 n1 n2
          have hn : GL.isNon .non = true := rfl
          simp only [lp__law_less_1, sIf_ap, tV_ap, eCmp_ap, eLv_ap, List.getElem?_cons_succ, List.getElem?_cons_zero, R.bind_ok, n1, asB_bl]
          rcases n2 with rfl | rfl | n2
          · simp [lessC, hn]
          · cases hx : GL.isNon x <;> simp [lessC, d1, hx, hn]
          · cases hx : GL.isNon x <;> cases hy : GL.isNon y <;> simp [lessC, d1, d2, hx, hy, n2]
        refine fin _ _ d1 d2 nq ?_
        rcases c1 with e | ⟨ek, i, e, _, _⟩ | ⟨ek, s, e, _⟩
        · exact .inl e
        · rcases c2 with e' | ⟨ek', i', e', _, _⟩ | ⟨ek', s', e', _⟩
          · exact .inr (.inl e')
          · rw [e, e']; exact .inr (.inr rfl)
          · rw [ek] at ek'; exact absurd ek' (by decide +kernel)
        · rcases c2 with e' | ⟨ek', i', e', _, _⟩ | ⟨ek', s', e', _⟩
          · exact .inr (.inl e')
          · rw [ek] at ek'; exact absurd ek' (by decide +kernel)
          · rw [e, e']; exact .inr (.inr rfl)
      simp [e1, q]
theorem f24 {ss : List Src} {a b : LT} (hs : SsOk ss) (ha : LetOk ss a) (hb : LetOk ss b) (he : a.src = b.src) : tab (k + 1) 24 [encL a, encL b] g = .ok (.bl (lessL a b)) g := by
  show mFun 2 4 (b__law_less (tab k)) [encL a, encL b] g = _
  obtain ⟨s1, r1, v1, b1⟩ := a
  obtain ⟨s2, r2, v2, b2⟩ := b
  obtain ⟨cols, hm, _, _, _, _, hb1⟩ := ha
  obtain ⟨cols2, hm2, _, _, _, _, hb2⟩ := hb
  simp only at he hm hm2 hb1 hb2
  subst he
  have := same_cols hs hm hm2
  subst this
  have a3 : ∀ (w : Str) (i j : Int) (r : List D), atI (D.str w :: .str s1 :: .int i :: .int j :: r) 3 = some (.int j) := fun w i j r => by
    unfold atI; rw [show ((3 : Int)) = ((3 : Nat) : Int) from rfl, ixN_nat (by simp)]; rfl
  have n3 : ∀ i j : Int, cmpop .NotEq (.int i) (.int j) g = .ok (.bl (!decide (i = j))) g := fun i j => by simp
  by_cases qv : ¬ v1 = v2
  · cases b1 <;> cases b2 <;> simp [mFun, b__law_less, encL, a3, qv, lessL, endR]
  have qv := Decidable.not_not.mp qv
  subst qv
  cases b1 with
  | none =>
    cases b2 with
    | none =>
      have c1 : ∀ (w : Str) (i j : Int), cutD [.str w, .str s1, .int i, .int j] (some 4) (some 6) = [] := fun _ _ _ => rfl
      have o1 : okD (.tup []) 64 = true := rfl
      simp [mFun, b__law_less, encL, a3, lessL, c1, ltTD, ltT_nil, o1, guardR, endR]
    | some x => simp [mFun, b__law_less, encL, a3, lessL, endR]
  | some y =>
    obtain ⟨k1, m1, cs1⟩ := y
    cases b2 with
    | none => simp [mFun, b__law_less, encL, a3, lessL, endR]
    | some x =>
      obtain ⟨k2, m2, cs2⟩ := x
      obtain ⟨hk1, _, _, zs, hz1, rfl, hz⟩ := hb1
      obtain ⟨hk2, _, _, ws, hw1, rfl, hw⟩ := hb2
      have c1 : ∀ (w : Str) (i j : Int) (ky : Str) (m : Int) (d : D), cutD [.str w, .str s1, .int i, .int j, .str ky, .int m, d] (some 4) (some 6) = [.str ky, .int m] := fun _ _ _ _ _ _ => rfl
      have a6 : ∀ (w : Str) (i j : Int) (ky : Str) (m : Int) (d : D), atI [.str w, .str s1, .int i, .int j, .str ky, .int m, d] 6 = some d := fun _ _ _ _ _ _ => rfl
      have ok1 : okD (.str k1) 62 = true := by simpa only [okD] using hk1.sm.2
      have ok2 : okD (.str k2) 62 = true := by simpa only [okD] using hk2.sm.2
      have okt1 : okD (.tup [.str k1, .int m1]) 64 = true := by simp only [okD, okDs, Bool.and_true]; exact hk1.sm.2
      have okt2 : okD (.tup [.str k2, .int m2]) 64 = true := by simp only [okD, okDs, Bool.and_true]; exact hk2.sm.2
      have es : eqD (.str k1) (.str k2) = decide (k1 = k2) := by simp only [eqD, str_beq]
      have ei : ∀ i j : Int, eqD (.int i) (.int j) = decide (i = j) := fun i j => by simp [eqD]; rfl
      have nq : cmpop .NotEq (.tup [.str k1, .int m1]) (.tup [.str k2, .int m2]) g = .ok (.bl (!(decide (k1 = k2) && decide (m1 = m2)))) g := by
        rw [ne_ap]
        show guardR (okE (.tup [.str k1, .int m1]) (.tup [.str k2, .int m2])) _ g = _
        rw [okE_ok okt1 okt2]
        show R.ok (D.bl (!eqD (.tup [.str k1, .int m1]) (.tup [.str k2, .int m2]))) g = _
        simp only [eqD, eqDs, str_beq, Bool.and_true]; rfl
      have lt2 : ltTD (.tup [.str k1, .int m1]) (.tup [.str k2, .int m2]) g = .ok (.bl (if k1 = k2 then (if m1 = m2 then false else decide (m1 < m2)) else decide (k1.cps.toList < k2.cps.toList))) g := by
        unfold ltTD
        have : ltT (.tup [.str k1, .int m1]) (.tup [.str k2, .int m2]) = some (if k1 = k2 then (if m1 = m2 then false else decide (m1 < m2)) else decide (k1.cps.toList < k2.cps.toList)) := by
          rw [ltT_cons ok1 ok2, es, ltT_cons (n := 5) (m := 5) rfl rfl, ei, ltT_nil, ltT_int, ltT_str]
          by_cases q2 : k1 = k2
          · by_cases q3 : m1 = m2 <;> simp [q2, q3]
          · simp [q2]
        rw [this]
        simp only
        rw [okt1, okt2]; rfl
      by_cases q : k1 = k2 ∧ m1 = m2
      · obtain ⟨rfl, rfl⟩ := q
        have lp := less_loop k g (.val (encL ⟨s1, r1, v1, some (k1, m1, zs.map (·.2))⟩)) (.val (encL ⟨s1, r2, v1, some (k1, m1, ws.map (·.2))⟩)) zs ws (hz1.symm.trans hw1) hz hw .un .un
        simp only [encL] at lp
        rcases lp with e | ⟨y2, y3, e, e2⟩
        · simp [mFun, b__law_less, encL, a3, c1, nq, a6, e, lessL, endR]
        · simp [mFun, b__law_less, encL, a3, c1, nq, a6, e, lessL, e2, endR]
      · have q' : (decide (k1 = k2) && decide (m1 = m2)) = false := by simpa using q
        rw [q'] at nq
        by_cases q2 : k1 = k2
        · have q3 : ¬ m1 = m2 := fun h => q ⟨q2, h⟩
          subst q2
          simp [mFun, b__law_less, encL, a3, c1, nq, lt2, lessL, q3, endR]
        · simp [mFun, b__law_less, encL, a3, c1, nq, lt2, lessL, q2, endR]
end
end LW

namespace LW
open PySem L2 GL
/-! ### turns, plain -/
def addB (acc : List (Int × LT)) (l : LT) : Bool := match acc.getLast? with
  | none => true
  | some e => lessL e.2 l
def stepT (s : Str) (row : Int) (acc : List (Int × LT)) (i : Nat) (l : LT) : List (Int × LT) := if l.src = s ∧ l.row = row then (if addB acc l = true then acc ++ [((i : Int) + 1, l)] else acc) else acc
def turnsF (s : Str) (row : Int) : Nat → List (Int × LT) → List LT → List (Int × LT)
  | _, acc, [] => acc
  | i, acc, l :: ls => turnsF s row (i + 1) (stepT s row acc i l) ls
theorem turnsF_snoc (s : Str) (row : Int) : ∀ (ls : List LT) (i : Nat) (acc : List (Int × LT)) (l : LT), turnsF s row i acc (ls ++ [l]) = stepT s row (turnsF s row i acc ls) (i + ls.length) l
  | [], i, acc, l => by simp [turnsF]
  | a :: ls, i, acc, l => by
    simp only [List.cons_append, turnsF, List.length_cons]
    rw [turnsF_snoc s row ls]
    congr 1; omega
def encT (e : Int × LT) : D := .tup [.int e.1, encL e.2]
theorem atI_last {α : Type} {xs : List α} {x : α} (h : xs.getLast? = some x) : atI xs (-1) = some x := by
  have hne : xs ≠ [] := fun q => by simp [q] at h
  have hp : 0 < xs.length := List.length_pos_iff.mpr hne
  have : ixN xs.length (-1) = some (xs.length - 1) := by
    unfold ixN
    split
    · omega
    · split <;> simp <;> omega
  unfold atI
  rw [this]
  rw [List.getLast?_eq_getElem?] at h
  exact h
section
variable {k : Nat} {g : Gh} {ss : List Src}
theorem ok_encT {e : Int × LT} (hs : SsOk ss) (h : LetOk ss e.2) {m : Nat} : okD (encT e) (m + 3) = true := by
  have := ok_encL hs h (m := m)
  simp only [encT, okD, okDs, this, Bool.and_true]
/-! ### the book -/
def B4 (ss : List Src) (t : Nat) (tick : Nat) : List (Str × D) := [("sources", .tup (ss.map encS)), ("turned", .loc t), ("ticks", .int tick), ("cut", .int 0)]
theorem b_ts : (Str.ofString "turned" == Str.ofString "sources") = false := by decide +kernel
theorem b_ks : (Str.ofString "ticks" == Str.ofString "sources") = false := by decide +kernel
theorem b_kt : (Str.ofString "ticks" == Str.ofString "turned") = false := by decide +kernel
theorem b_st : ¬ (Str.ofString "sources" = Str.ofString "turned") := by decide +kernel
theorem b_sk : ¬ (Str.ofString "sources" = Str.ofString "ticks") := by decide +kernel
theorem b_sc : ¬ (Str.ofString "sources" = Str.ofString "cut") := by decide +kernel
theorem b_tk : ¬ (Str.ofString "turned" = Str.ofString "ticks") := by decide +kernel
theorem b_tc : ¬ (Str.ofString "turned" = Str.ofString "cut") := by decide +kernel
theorem b_kc : ¬ (Str.ofString "ticks" = Str.ofString "cut") := by decide +kernel
@[simp] theorem lk_sources {t tick : Nat} : (B4 ss t tick).lookup (Str.ofString "sources") = some (.tup (ss.map encS)) := by simp [B4, List.lookup]
@[simp] theorem lk_turned {t tick : Nat} : (B4 ss t tick).lookup (Str.ofString "turned") = some (.loc t) := by simp [B4, List.lookup, b_ts]
@[simp] theorem lk_ticks {t tick : Nat} : (B4 ss t tick).lookup (Str.ofString "ticks") = some (.int tick) := by simp [B4, List.lookup, b_ks, b_kt]
theorem lk_no {t tick : Nat} {f : String} (h1 : (Str.ofString f == Str.ofString "sources") = false) (h2 : (Str.ofString f == Str.ofString "turned") = false) (h3 : (Str.ofString f == Str.ofString "ticks") = false) (h4 : (Str.ofString f == Str.ofString "cut") = false) : (B4 ss t tick).lookup (Str.ofString f) = none := by
  simp [B4, List.lookup, h1, h2, h3, h4]
@[simp] theorem lk_take {t tick : Nat} : (B4 ss t tick).lookup (Str.ofString "take") = none := lk_no (by decide +kernel) (by decide +kernel) (by decide +kernel) (by decide +kernel)
@[simp] theorem lk_turns {t tick : Nat} : (B4 ss t tick).lookup (Str.ofString "turns") = none := lk_no (by decide +kernel) (by decide +kernel) (by decide +kernel) (by decide +kernel)
@[simp] theorem lk_rows {t tick : Nat} : (B4 ss t tick).lookup (Str.ofString "rows_of") = none := lk_no (by decide +kernel) (by decide +kernel) (by decide +kernel) (by decide +kernel)
@[simp] theorem put_ticks {t tick : Nat} {i : Nat} : putD (Str.ofString "ticks") (.int ((tick : Int) + 1)) (B4 ss t i) = B4 ss t (tick + 1) := by
  simp [putD, B4, b_sk, b_tk]
@[simp] theorem len_B4 {t tick : Nat} : (B4 ss t tick).length = 4 := rfl
abbrev bO (ss : List Src) (t tick : Nat) : O := .ins 27 (B4 ss t tick)
structure Bk (b : Nat) (ss : List Src) (T : Str → Int → List (Int × LT)) (tick : Nat) (t : Nat) (dl : Str → Nat) (rl : Str → Int → Option Nat) (g : Gh) : Prop where
  hb : g[b]? = some (bO ss t tick)
  ht : g[t]? = some (.dct (ss.map fun p => (.inr p.1, .loc (dl p.1))))
  hdt : ∀ p ∈ ss, dl p.1 ≠ t
  hdi : ∀ p ∈ ss, ∀ q ∈ ss, dl p.1 = dl q.1 → p.1 = q.1
  hd : ∀ p ∈ ss, ∃ kvs, g[dl p.1]? = some (.dct kvs) ∧ kvs.length ≤ tick ∧ ∀ row, valD kvs (.inl row) = (rl p.1 row).map D.loc
  hr : ∀ p ∈ ss, ∀ row r, rl p.1 row = some r → g[r]? = some (.lst ((T p.1 row).map encT))
  hn : ∀ p ∈ ss, ∀ row, rl p.1 row = none → T p.1 row = []
  hi : ∀ p ∈ ss, ∀ q ∈ ss, ∀ row row' r, rl p.1 row = some r → rl q.1 row' = some r → p.1 = q.1 ∧ row = row'
  tl : ∀ s row, (T s row).length ≤ tick
  to : ∀ s row, ∀ e ∈ T s row, LetOk ss e.2 ∧ e.2.src = s
theorem Bk.mono {b : Nat} {T : Str → Int → List (Int × LT)} {tick t : Nat} {dl : Str → Nat} {rl : Str → Int → Option Nat} {g' : Gh} (h : Bk b ss T tick t dl rl g) (hm : ∀ (j : Nat) (o : O), g[j]? = some o → g'[j]? = some o) : Bk b ss T tick t dl rl g' where
  hb := hm _ _ h.hb
  ht := hm _ _ h.ht
  hdt := h.hdt
  hdi := h.hdi
  hd := fun p hp => by
    obtain ⟨kvs, h1, h2⟩ := h.hd p hp
    exact ⟨kvs, hm _ _ h1, h2⟩
  hr := fun p hp row r q => hm _ _ (h.hr p hp row r q)
  hn := h.hn
  hi := h.hi
  tl := h.tl
  to := h.to
noncomputable def tailT (F : Nat → FM) : MS := (sSeq (sSet 7 (eOr (eCmp .Eq (eLv 6) (eAlloc (fLst (lNil)))) (eLtT (eCall (F 11) 1 0 [0] [] (lCons (eSub (eSub (eLv 6) (eNeg (eC (.int 1)))) (eC (.int 1))) (lNil)) (lNil)) (eCall (F 11) 1 0 [0] [] (lCons (eLv 1) (lNil)) (lNil))))) (sSeq (sIf (tV (eLv 7)) (sLocApp (eLv 6) (eTup (lCons (eFld 27 "ticks" (eLv 0)) (lCons (eLv 1) (lNil))))) (sSkip)) (sRet (eTup (lCons (eFld 27 "ticks" (eLv 0)) (lCons (eLv 7) (lNil)))))))
theorem app_get {g : Gh} {o : O} {j : Nat} {x : O} (h : g[j]? = some x) : (g ++ [o])[j]? = some x := by
  have := (List.getElem?_eq_some_iff.mp h).1
  rw [List.getElem?_append_left this]; exact h
theorem set_ne {g : Gh} {o : O} {i j : Nat} (h : i ≠ j) : (g.set i o)[j]? = g[j]? := List.getElem?_set_ne h
theorem tail_ok {b r t tk : Nat} {l : LT} {ts : List (Int × LT)} {x2 x3 x4 x5 x7 : Sl} (hs : SsOk ss) (hl : LetOk ss l) (h6 : g[r]? = some (.lst (ts.map encT))) (hb : g[b]? = some (bO ss t tk)) (hlen : ts.length ≤ 1000) (hto : ∀ e ∈ ts, LetOk ss e.2 ∧ e.2.src = l.src) :
    tailT (tab (k + 1)) [.val (.loc b), .val (encL l), x2, x3, x4, x5, .val (.loc r), x7] g = .rt (.tup [.int tk, .bl (addB ts l)]) (if addB ts l = true then (g ++ [O.lst []]).set r (.lst ((ts ++ [((tk : Int), l)]).map encT)) else g ++ [O.lst []]) := by
  have h6' : (g ++ [O.lst []])[r]? = some (.lst (ts.map encT)) := app_get h6
  have hb' : (g ++ [O.lst []])[b]? = some (bO ss t tk) := app_get hb
  have hbr : r ≠ b := fun q => by subst q; rw [h6] at hb; cases hb
  have l0 : (0 : Nat) ≤ LIM := by decide
  have hll : ts.length < LIM := Nat.lt_of_le_of_lt hlen (by decide)
  have hln : (g ++ [O.lst []])[g.length]? = some (.lst []) := by simp
  have dr : deref (g ++ [O.lst []]) (.loc r) = .lst (ts.map encT) := by simp [deref, h6']
  have dn : deref (g ++ [O.lst []]) (.loc g.length) = .lst [] := by simp [deref, hln]
  have eq0 : cmpop .Eq (.loc r) (.loc g.length) (g ++ [O.lst []]) = .ok (.bl (ts.map encT).isEmpty) (g ++ [O.lst []]) := by
    have := eq_nilL (g := g ++ [O.lst []]) (ds := ts.map encT) (fun d hd => by
      obtain ⟨e, he, rfl⟩ := List.mem_map.mp hd
      exact ok_encT hs (hto e he).1)
    rw [eq_ap] at this ⊢
    rw [dr, dn]
    exact this
  have fin : ∀ c : Bool, c = addB ts l → (sSeq (sIf (tV (eLv 7)) (sLocApp (eLv 6) (eTup (lCons (eFld 27 "ticks" (eLv 0)) (lCons (eLv 1) (lNil))))) (sSkip)) (sRet (eTup (lCons (eFld 27 "ticks" (eLv 0)) (lCons (eLv 7) (lNil)))))) [.val (.loc b), .val (encL l), x2, x3, x4, x5, .val (.loc r), .val (.bl c)] (g ++ [O.lst []]) = .rt (.tup [.int tk, .bl (addB ts l)]) (if addB ts l = true then (g ++ [O.lst []]).set r (.lst ((ts ++ [((tk : Int), l)]).map encT)) else g ++ [O.lst []]) := by
    intro c hc
    subst hc
    cases hc : addB ts l with
    | false => simp [hb', lim2]
    | true =>
      have hb2 : ((g ++ [O.lst []]).set r (.lst (ts.map encT ++ [D.tup [.int tk, encL l]])))[b]? = some (bO ss t tk) := by rw [set_ne hbr]; exact hb'
      simp [hb', h6', lim2, hll, hb2, encT]
  cases hq : ts.getLast? with
  | none =>
    have : ts = [] := by simpa using hq
    subst this
    have ha : addB [] l = true := rfl
    have := fin true ha.symm
    simp only [tailT]
    simp only [List.map_nil, List.isEmpty_nil] at eq0
    simp only [sSeq_ap] at this ⊢
    simp [l0, eq0]
    simpa using this
  | some e =>
    have hne : ts ≠ [] := fun q => by simp [q] at hq
    have hem : e ∈ ts := List.mem_of_getLast? hq
    have h1 : (ts.map encT).isEmpty = false := by
      cases ts with
      | nil => exact absurd rfl hne
      | cons a b => rfl
    rw [h1] at eq0
    have hat : atI (ts.map encT) (-1) = some (encT e) := atI_last (by rw [List.getLast?_map, hq]; rfl)
    have a1 : atI [D.int e.1, encL e.2] 1 = some (encL e.2) := rfl
    have w1 := f11 (k := k) (g := g ++ [O.lst []]) hs (hto e hem).1
    have w2 := f11 (k := k) (g := g ++ [O.lst []]) hs hl
    have lt := lt_wL hs (hto e hem).1 hl (hto e hem).2
    have o1 := ok_wL hs (hto e hem).1
    have o2 := ok_wL hs hl
    have ltd : ltTD (wL e.2) (wL l) (g ++ [O.lst []]) = .ok (.bl (lessL e.2 l)) (g ++ [O.lst []]) := by
      unfold ltTD; rw [lt]; simp only; rw [o1, o2]; rfl
    have d1 : deref (g ++ [O.lst []]) (wL e.2) = wL e.2 := okD_deref o1
    have d2 : deref (g ++ [O.lst []]) (wL l) = wL l := okD_deref o2
    have d3 : deref (g ++ [O.lst []]) (encT e) = .tup [.int e.1, encL e.2] := rfl
    have ha : addB ts l = lessL e.2 l := by simp only [addB, hq]
    have := fin _ ha.symm
    simp only [tailT]
    simp only [sSeq_ap] at this ⊢
    simp [l0, eq0, dr, hat, d3, a1, permL, w1, w2, d1, d2, ltd]
    simpa using this
theorem stepT_len {s : Str} {row : Int} {acc : List (Int × LT)} {i n : Nat} {l : LT} (h : acc.length ≤ n) : (stepT s row acc i l).length ≤ n + 1 := by
  unfold stepT
  split
  · split
    · simp; exact h
    · omega
  · omega
theorem stepT_mem {s : Str} {row : Int} {acc : List (Int × LT)} {i : Nat} {l : LT} (hl : LetOk ss l) (h : ∀ e ∈ acc, LetOk ss e.2 ∧ e.2.src = s) : ∀ e ∈ stepT s row acc i l, LetOk ss e.2 ∧ e.2.src = s := by
  unfold stepT
  split
  · rename_i q
    split
    · intro e he
      rcases List.mem_append.mp he with he | he
      · exact h e he
      · simp only [List.mem_cons, List.not_mem_nil, or_false] at he
        subst he; exact ⟨hl, q.1⟩
    · exact h
  · exact h
theorem stepT_no {s : Str} {row : Int} {acc : List (Int × LT)} {i : Nat} {l : LT} (h : ¬ (s = l.src ∧ row = l.row)) : stepT s row acc i l = acc := by
  unfold stepT
  rw [if_neg (fun q => h ⟨q.1.symm, q.2.symm⟩)]
theorem stepT_yes {acc : List (Int × LT)} {i : Nat} {l : LT} : stepT l.src l.row acc i l = if addB acc l = true then acc ++ [((i : Int) + 1, l)] else acc := by
  unfold stepT; rw [if_pos ⟨rfl, rfl⟩]
section
variable {b tick t : Nat} {T : Str → Int → List (Int × LT)} {dl : Str → Nat} {rl : Str → Int → Option Nat} {Gf : Gh} {l : LT} {cols : List (Str × Str)} {r : Nat}
theorem Bk.old (hB : Bk b ss T tick t dl rl g) (hl : LetOk ss l) (hp : (l.src, cols) ∈ ss) (hr : rl l.src l.row = some r)
    (h1 : ∀ (j : Nat) (o : O), g[j]? = some o → j ≠ b → j ≠ r → Gf[j]? = some o) (h2 : Gf[b]? = some (bO ss t (tick + 1))) (h3 : Gf[r]? = some (.lst ((stepT l.src l.row (T l.src l.row) tick l).map encT))) :
    Bk b ss (fun s row => stepT s row (T s row) tick l) (tick + 1) t dl rl Gf := by
  have gr := hB.hr _ hp _ _ hr
  have tb : t ≠ b := fun q => by have := hB.hb; rw [← q, hB.ht] at this; cases this
  have tr : t ≠ r := fun q => by rw [← q, hB.ht] at gr; cases gr
  have rb : r ≠ b := fun q => by have := hB.hb; rw [← q, gr] at this; cases this
  refine ⟨h2, h1 _ _ hB.ht tb tr, hB.hdt, hB.hdi, fun p hp => ?_, fun p hp' row r' hq => ?_, fun p hp' row hq => ?_, hB.hi, fun s row => stepT_len (hB.tl s row), fun s row => stepT_mem hl (hB.to s row)⟩
  · obtain ⟨kvs, e1, e2, e3⟩ := hB.hd p hp
    refine ⟨kvs, h1 _ _ e1 (fun q => ?_) (fun q => ?_), by omega, e3⟩
    · have := hB.hb; rw [← q, e1] at this; cases this
    · rw [← q, e1] at gr; cases gr
  · by_cases q : p.1 = l.src ∧ row = l.row
    · obtain ⟨q1, q2⟩ := q
      rw [q1, q2, hr] at hq
      cases hq
      rw [q1, q2]; exact h3
    · rw [stepT_no q]
      have gr' := hB.hr p hp' row r' hq
      refine h1 _ _ gr' (fun z => ?_) (fun z => ?_)
      · have := hB.hb; rw [← z, gr'] at this; cases this
      · subst z
        exact q (hB.hi p hp' _ hp row l.row r' hq hr)
  · have q : ¬ (p.1 = l.src ∧ row = l.row) := fun ⟨q1, q2⟩ => by rw [q1, q2, hr] at hq; cases hq
    rw [stepT_no q]
    exact hB.hn p hp' row hq
theorem valD_none {kvs : List (Key × D)} {c : Key} (h : valD kvs c = none) : ∀ kv ∈ kvs, kv.1 ≠ c := by
  intro kv hm q
  simp only [valD, Option.map_eq_none_iff, List.find?_eq_none] at h
  exact h kv hm (by simpa using q)
theorem valD_put {kvs : List (Key × D)} {c : Key} {v : D} (h : valD kvs c = none) (c' : Key) : valD (putKD kvs c v) c' = if c' = c then some v else valD kvs c' := by
  rw [putKD_new (valD_none h)]
  by_cases q : c' = c
  · subst q
    rw [if_pos rfl]
    have := valD_none h
    simp only [valD] at h ⊢
    rw [List.find?_append]
    simp only [Option.map_eq_none_iff] at h
    rw [h]; simp
  · rw [if_neg q]
    have q' : ¬ (c = c') := fun z => q z.symm
    simp only [valD]
    rw [List.find?_append]
    simp [q']
theorem Bk.new {kvs : List (Key × D)} (hB : Bk b ss T tick t dl rl g) (hl : LetOk ss l) (hp : (l.src, cols) ∈ ss) (hr : rl l.src l.row = none) (hk : g[dl l.src]? = some (.dct kvs)) (hkl : kvs.length ≤ tick) (hkv : ∀ row, valD kvs (.inl row) = (rl l.src row).map D.loc) (hz : g.length ≤ r)
    (h1 : ∀ (j : Nat) (o : O), g[j]? = some o → j ≠ b → j ≠ dl l.src → Gf[j]? = some o) (h2 : Gf[b]? = some (bO ss t (tick + 1))) (h3 : Gf[r]? = some (.lst ((stepT l.src l.row (T l.src l.row) tick l).map encT)))
    (h4 : Gf[dl l.src]? = some (.dct (putKD kvs (.inl l.row) (.loc r)))) :
    Bk b ss (fun s row => stepT s row (T s row) tick l) (tick + 1) t dl (fun s row => if s = l.src ∧ row = l.row then some r else rl s row) Gf := by
  have tb : t ≠ b := fun q => by have := hB.hb; rw [← q, hB.ht] at this; cases this
  have td : t ≠ dl l.src := fun q => hB.hdt _ hp q.symm
  have vn : valD kvs (.inl l.row) = none := by rw [hkv, hr]; rfl
  have big : ∀ {j : Nat} {o : O}, g[j]? = some o → j ≠ r := fun h q => by
    have := (List.getElem?_eq_some_iff.mp h).1; omega
  refine ⟨h2, h1 _ _ hB.ht tb td, hB.hdt, hB.hdi, fun p hp' => ?_, fun p hp' row r' hq => ?_, fun p hp' row hq => ?_, fun p hp' q hq' row row' r' x y => ?_, fun s row => stepT_len (hB.tl s row), fun s row => stepT_mem hl (hB.to s row)⟩
  · by_cases q : p.1 = l.src
    · rw [q]
      refine ⟨_, h4, Nat.le_trans (putKD_len _ _ _) (by omega), fun row => ?_⟩
      rw [valD_put vn]
      by_cases q2 : row = l.row
      · subst q2; simp
      · rw [if_neg (fun z => q2 (Sum.inl.inj z)), if_neg (fun z => q2 z.2)]; exact hkv row
    · obtain ⟨kvs', e1, e2, e3⟩ := hB.hd p hp'
      refine ⟨kvs', h1 _ _ e1 (fun z => ?_) (fun z => q (hB.hdi p hp' _ hp z)), by omega, fun row => ?_⟩
      · have := hB.hb; rw [← z, e1] at this; cases this
      · rw [if_neg (fun z => q z.1)]; exact e3 row
  · by_cases q : p.1 = l.src ∧ row = l.row
    · rw [if_pos q] at hq
      cases hq
      rw [q.1, q.2]; exact h3
    · rw [if_neg q] at hq
      rw [stepT_no q]
      have gr' := hB.hr p hp' row r' hq
      refine h1 _ _ gr' (fun z => ?_) (fun z => ?_)
      · have := hB.hb; rw [← z, gr'] at this; cases this
      · rw [z, hk] at gr'; cases gr'
  · by_cases q : p.1 = l.src ∧ row = l.row
    · rw [if_pos q] at hq; cases hq
    · rw [if_neg q] at hq
      rw [stepT_no q]; exact hB.hn p hp' row hq
  · by_cases q1 : p.1 = l.src ∧ row = l.row
    · rw [if_pos q1] at x
      cases x
      by_cases q2 : q.1 = l.src ∧ row' = l.row
      · exact ⟨q1.1.trans q2.1.symm, q1.2.trans q2.2.symm⟩
      · rw [if_neg q2] at y
        exact absurd rfl (big (hB.hr q hq' row' _ y))
    · rw [if_neg q1] at x
      by_cases q2 : q.1 = l.src ∧ row' = l.row
      · rw [if_pos q2] at y
        cases y
        exact absurd rfl (big (hB.hr p hp' row _ x))
      · rw [if_neg q2] at y
        exact hB.hi p hp' q hq' row row' r' x y
theorem asg_ok {x1 x2 x3 x4 x5 x6 x7 : Sl} {x0 : Sl} : ∃ w rest, gSt 3 4 (gsCons (gNm 2) (gsCons (gNm 3) (gsCons (gNm 4) (gsCons (gNm 5) (gsNil))))) (encL l) [x0, x1, x2, x3, x4, x5, x6, x7] = some [x0, x1, .val (.str w), .val (.str l.src), .val (.int l.row), .val rest, x6, x7] := by
  obtain ⟨src, row, ver, body⟩ := l
  have l7 : (7 : Nat) ≤ LIM := by decide
  have l1 : (1 : Nat) ≤ LIM := by decide
  cases body with
  | none => exact ⟨"unsay", .lst [.int ver], by simp [encL, lim4, l1]⟩
  | some y => exact ⟨"say", .lst [.int ver, .str y.1, .int y.2.1, .tup y.2.2], by simp [encL, l7, lim4]⟩
theorem f13 (hs : SsOk ss) (hB : Bk b ss T tick t dl rl g) (htk : tick ≤ 500) (hl : LetOk ss l) :
    ∃ c rl' g', tab (k + 6) 13 [.loc b, encL l] g = .ok (.tup [.int ((tick : Int) + 1), .bl c]) g' ∧ Bk b ss (fun s row => stepT s row (T s row) tick l) (tick + 1) t dl rl' g' := by
  obtain ⟨cols, hp, hlr⟩ := id hl
  have e10 := f10 (k := k) (g := g) hs hl
  obtain ⟨kvs, hk, hkl, hkv⟩ := hB.hd _ hp
  simp only at hk hkl hkv
  have hkL : kvs.length < LIM := Nat.lt_of_le_of_lt (by omega : _ ≤ 500) (by decide)
  have tb : t ≠ b := fun q => by have := hB.hb; rw [← q, hB.ht] at this; cases this
  have db : dl l.src ≠ b := fun q => by have := hB.hb; rw [← q, hk] at this; cases this
  have hv : valD (ss.map fun p => ((.inr p.1 : Key), D.loc (dl p.1))) (.inr l.src) = some (.loc (dl l.src)) := valD_map (fun p : Src => p.1) (fun p => .loc (dl p.1)) ss hs.nd _ hp
  obtain ⟨w, rest, easg⟩ := asg_ok (l := l) (x0 := .val (.loc b)) (x1 := .val (encL l)) (x2 := .un) (x3 := .un) (x4 := .un) (x5 := .un) (x6 := .un) (x7 := .un)
  generalize hG1 : g ++ [O.dct (known ss)] = G1 at *
  have m1 : ∀ (j : Nat) (o : O), g[j]? = some o → G1[j]? = some o := fun j o h => by rw [← hG1]; exact app_get h
  have len1 : G1.length = g.length + 1 := by rw [← hG1]; simp
  have hb1 := m1 _ _ hB.hb
  generalize hG2 : G1.set b (bO ss t (tick + 1)) = G2 at *
  have m2 : ∀ (j : Nat) (o : O), g[j]? = some o → j ≠ b → G2[j]? = some o := fun j o h hj => by rw [← hG2, set_ne (fun q => hj q.symm)]; exact m1 j o h
  have len2 : G2.length = g.length + 1 := by rw [← hG2]; simp [len1]
  have hb2 : G2[b]? = some (bO ss t (tick + 1)) := by rw [← hG2]; exact set_get hb1
  have ht2 := m2 _ _ hB.ht tb
  have hk2 := m2 _ _ hk db
  have hk3 : (G2 ++ [O.lst []])[dl l.src]? = some (.dct kvs) := app_get hk2
  have hto : ∀ e ∈ T l.src l.row, LetOk ss e.2 ∧ e.2.src = l.src := hB.to _ _
  have hlen : (T l.src l.row).length ≤ 1000 := Nat.le_trans (hB.tl _ _) (by omega)
  have l0 : (0 : Nat) ≤ LIM := by decide
  have head : ∀ (r : Nat) (G4 : Gh), setdD (.loc (dl l.src)) (.int l.row) (.loc G2.length) (G2 ++ [O.lst []]) = .ok (.loc r) G4 → mFun 2 8 (b_Book_take (tab (k + 5))) [.loc b, encL l] g = endR (tailT (tab (k + 5)) [.val (.loc b), .val (encL l), .val (.str w), .val (.str l.src), .val (.int l.row), .val rest, .val (.loc r), .un] G4) := by
    intro r G4 hset
    have id2 : isDct (.loc (dl l.src)) G2 = true := isDct_at hk2
    have hbt : ∀ F : Nat → FM, b_Book_take F = sSeq (sIf (tNot (tV (eCall (F 10) 2 0 [0, 1] [] (lCons (eFld 27 "sources" (eLv 0)) (lCons (eLv 1) (lNil))) (lNil)))) (sNever) (sSkip)) (sSeq (sFldAdd 27 "ticks" (eLv 0) (eC (.int 1))) (sSeq (sAsg (eLv 1) (gSt 3 4 (gsCons (gNm 2) (gsCons (gNm 3) (gsCons (gNm 4) (gsCons (gNm 5) (gsNil))))))) (sSeq (sSet 6 (eDSetd (eDGet (eFld 27 "turned" (eLv 0)) (eLv 3)) (eLv 4) (eAlloc (fLst (lNil))))) (tailT F)))) := fun _ => rfl
    simp [mFun, hbt, hB.hb, permL, e10, hG1, hb1, augF, hG2, easg, optS, hb2, atDct_at ht2, hv, id2, l0, hset, endR]
  cases hr : rl l.src l.row with
  | some r =>
    have gr := hB.hr _ hp _ _ hr
    have rb : r ≠ b := fun q => by have := hB.hb; rw [← q, gr] at this; cases this
    have hset : setdD (.loc (dl l.src)) (.int l.row) (.loc G2.length) (G2 ++ [O.lst []]) = .ok (.loc r) (G2 ++ [O.lst []]) := by
      simp [setdD, keyD, hk3, hkL, hkv, hr]
    have gr2 : (G2 ++ [O.lst []])[r]? = some (.lst ((T l.src l.row).map encT)) := app_get (m2 _ _ gr rb)
    have tl := tail_ok (k := k + 4) (g := G2 ++ [O.lst []]) (b := b) (r := r) (t := t) (tk := tick + 1) (x2 := .val (.str w)) (x3 := .val (.str l.src)) (x4 := .val (.int l.row)) (x5 := .val rest) (x7 := .un) hs hl gr2 (app_get hb2) hlen hto
    refine ⟨addB (T l.src l.row) l, rl, (if addB (T l.src l.row) l = true then (G2 ++ [O.lst []] ++ [O.lst []]).set r (.lst ((T l.src l.row ++ [(((tick + 1 : Nat) : Int), l)]).map encT)) else G2 ++ [O.lst []] ++ [O.lst []]), ?_, hB.old hl hp hr ?_ ?_ ?_⟩
    · show mFun 2 8 (b_Book_take (tab (k + 5))) [.loc b, encL l] g = _
      rw [head r _ hset, tl]
      rfl
    · intro j o h hj hjr
      have := app_get (o := O.lst []) (app_get (o := O.lst []) (m2 j o h hj))
      split
      · rw [set_ne (fun q => hjr q.symm)]; exact this
      · exact this
    · have := app_get (o := O.lst []) (app_get (o := O.lst []) hb2)
      split
      · rw [set_ne rb]; exact this
      · exact this
    · have := app_get (o := O.lst []) gr2
      rw [stepT_yes]
      split
      · exact set_get this
      · exact this
  | none =>
    have hT : T l.src l.row = [] := hB.hn _ hp _ hr
    have hset : setdD (.loc (dl l.src)) (.int l.row) (.loc G2.length) (G2 ++ [O.lst []]) = .ok (.loc G2.length) ((G2 ++ [O.lst []]).set (dl l.src) (.dct (putKD kvs (.inl l.row) (.loc G2.length)))) := by
      simp [setdD, keyD, hk3, hkL, hkv, hr]
    have dlen : dl l.src ≠ G2.length := fun q => by
      have := (List.getElem?_eq_some_iff.mp hk2).1; omega
    have blen : b ≠ G2.length := fun q => by
      have := (List.getElem?_eq_some_iff.mp hb2).1; omega
    generalize hG4 : (G2 ++ [O.lst []]).set (dl l.src) (.dct (putKD kvs (.inl l.row) (.loc G2.length))) = G4 at *
    have gr4 : G4[G2.length]? = some (.lst ((T l.src l.row).map encT)) := by
      rw [← hG4, set_ne dlen, hT]; simp
    have hb4 : G4[b]? = some (bO ss t (tick + 1)) := by
      rw [← hG4, set_ne db]; exact app_get hb2
    have hd4 : G4[dl l.src]? = some (.dct (putKD kvs (.inl l.row) (.loc G2.length))) := by
      rw [← hG4]; exact set_get hk3
    have m4 : ∀ (j : Nat) (o : O), g[j]? = some o → j ≠ b → j ≠ dl l.src → G4[j]? = some o := fun j o h hj hjd => by
      rw [← hG4, set_ne (fun q => hjd q.symm)]; exact app_get (m2 j o h hj)
    have tl := tail_ok (k := k + 4) (g := G4) (b := b) (r := G2.length) (t := t) (tk := tick + 1) (x2 := .val (.str w)) (x3 := .val (.str l.src)) (x4 := .val (.int l.row)) (x5 := .val rest) (x7 := .un) hs hl gr4 hb4 hlen hto
    refine ⟨addB (T l.src l.row) l, _, (if addB (T l.src l.row) l = true then (G4 ++ [O.lst []]).set G2.length (.lst ((T l.src l.row ++ [(((tick + 1 : Nat) : Int), l)]).map encT)) else G4 ++ [O.lst []]), ?_, hB.new (r := G2.length) (kvs := kvs) hl hp hr hk hkl hkv (by omega) ?_ ?_ ?_ ?_⟩
    · show mFun 2 8 (b_Book_take (tab (k + 5))) [.loc b, encL l] g = _
      rw [head _ _ hset, tl]
      rfl
    · intro j o h hj hjd
      have := app_get (o := O.lst []) (m4 j o h hj hjd)
      have hjr : G2.length ≠ j := fun q => by
        have := (List.getElem?_eq_some_iff.mp h).1; omega
      split
      · rw [set_ne hjr]; exact this
      · exact this
    · have := app_get (o := O.lst []) hb4
      split
      · rw [set_ne (fun q => blen q.symm)]; exact this
      · exact this
    · have := app_get (o := O.lst []) gr4
      rw [stepT_yes]
      split
      · exact set_get this
      · exact this
    · have := app_get (o := O.lst []) hd4
      split
      · rw [set_ne (fun q => dlen q.symm)]; exact this
      · exact this
theorem f14 (hs : SsOk ss) (hB : Bk b ss T tick t dl rl g) {p : Src} (hp : p ∈ ss) : tab (k + 1) 14 [.loc b, .str p.1] g = .ok (.loc (dl p.1)) g := by
  show mFun 2 2 (b_Book_rows_of (tab k)) [.loc b, .str p.1] g = _
  have hv : valD (ss.map fun p => ((.inr p.1 : Key), D.loc (dl p.1))) (.inr p.1) = some (.loc (dl p.1)) := valD_map (fun p : Src => p.1) (fun p => .loc (dl p.1)) ss hs.nd _ hp
  simp [mFun, b_Book_rows_of, hB.hb, atDct_at hB.ht, hv, endR]
theorem f15 (hs : SsOk ss) (hB : Bk b ss T tick t dl rl g) {p : Src} (hp : p ∈ ss) {row : Int} : tab (k + 2) 15 [.loc b, .str p.1, .int row] g = .ok (.loc g.length) (g ++ [O.lst ((T p.1 row).map encT)]) := by
  show mFun 3 3 (b_Book_turns (tab (k + 1))) [.loc b, .str p.1, .int row] g = _
  have e := f14 (k := k) hs hB hp
  obtain ⟨kvs, hk, _, hkv⟩ := hB.hd p hp
  have l0 : (0 : Nat) ≤ LIM := by decide
  have id2 : isDct (.loc (dl p.1)) g = true := isDct_at hk
  cases hr : rl p.1 row with
  | none =>
    have hT := hB.hn p hp row hr
    simp [mFun, b_Book_turns, isInsOk, hB.hb, permL, e, noX, id2, l0, atDct_at hk, hkv, hr, oListF, seqD, hT, endR]
  | some r =>
    have gr := hB.hr p hp row r hr
    simp [mFun, b_Book_turns, isInsOk, hB.hb, permL, e, noX, id2, l0, atDct_at hk, hkv, hr, oListF, seqD, deref, gr, endR]
end
end
end LW

namespace LW
open PySem L2 GL
section
variable {k : Nat} {g : Gh} {ss : List Src}
/-! ### a new book -/
def pairsAt : List Src → Nat → List D
  | [], _ => []
  | p :: r, n => .tup [.str p.1, .loc n] :: pairsAt r (n + 1)
theorem pairsAt_len : ∀ (ss : List Src) (n : Nat), (pairsAt ss n).length = ss.length
  | [], _ => rfl
  | p :: r, n => by simp [pairsAt, pairsAt_len r]
theorem comp_dicts {x0 x1 : Sl} : ∀ (ss : List Src) (g : Gh), compL none (gTp 2 (gsCons (gNm 2) (gsCons (gNm 3) gsNil))) tTrue (ePairK (eLv 2) eDict0) (ss.map encS) [x0, x1, .un, .un] g = .ok (pairsAt ss g.length) (g ++ List.replicate ss.length (O.dct []))
  | [], g => by simp [pairsAt, compL_nil]
  | p :: r, g => by
    have e1 : gTp 2 (gsCons (gNm 2) (gsCons (gNm 3) gsNil)) (encS p) [x0, x1, .un, .un] = some [x0, x1, .val (.str p.1), .val (.tup (p.2.map encC))] := rfl
    have e2 : ePairK (eLv 2) eDict0 [x0, x1, .val (.str p.1), .val (.tup (p.2.map encC))] g = .ok (.tup [.str p.1, .loc g.length]) (g ++ [O.dct []]) := by simp [ePairK, keyD]
    rw [List.map_cons, compL_cons, e1]
    simp only [tTrue_ap, if_true, e2]
    rw [comp_dicts r (g ++ [O.dct []])]
    simp [pairsAt, List.replicate_succ]
theorem pairsAt_ex : ∀ (ss : List Src) (n : Nat), (ss.map (·.1)).Nodup → ∃ dl : Str → Nat, pairsAt ss n = ss.map (fun p => .tup [.str p.1, .loc (dl p.1)]) ∧ (∀ p ∈ ss, n ≤ dl p.1 ∧ dl p.1 < n + ss.length) ∧ ∀ p ∈ ss, ∀ q ∈ ss, dl p.1 = dl q.1 → p.1 = q.1
  | [], n, _ => ⟨fun _ => 0, rfl, (fun _ q => nomatch q), (fun _ q => nomatch q)⟩
  | p :: r, n, h => by
    simp only [List.map_cons, List.nodup_cons] at h
    obtain ⟨dl, h1, h2, h3⟩ := pairsAt_ex r (n + 1) h.2
    have hne : ∀ q ∈ r, q.1 ≠ p.1 := fun q hq z => h.1 (z ▸ List.mem_map_of_mem (f := (·.1)) hq)
    refine ⟨fun s => if s = p.1 then n else dl s, ?_, ?_, ?_⟩
    · simp only [pairsAt, List.map_cons, if_true, h1]
      congr 1
      exact List.map_congr_left fun q hq => by rw [if_neg (hne q hq)]
    · intro q hq
      rcases List.mem_cons.mp hq with rfl | hq
      · simp
      · have := h2 q hq
        simp only [if_neg (hne q hq), List.length_cons]; omega
    · intro q hq q' hq' e
      rcases List.mem_cons.mp hq with z | hq <;> rcases List.mem_cons.mp hq' with z' | hq'
      · rw [z, z']
      · rw [z] at e
        simp only [if_true, if_neg (hne q' hq')] at e
        have := h2 q' hq'; omega
      · rw [z'] at e
        simp only [if_true, if_neg (hne q hq)] at e
        have := h2 q hq; omega
      · simp only [if_neg (hne q hq), if_neg (hne q' hq')] at e
        exact h3 q hq q' hq' e
theorem f12 {b : Nat} (hs : SsOk ss) (hb : g[b]? = some (.ins 27 [])) : ∃ t dl g', tab (k + 5) 12 [.loc b, .tup (ss.map encS)] g = .ok .non g' ∧ Bk b ss (fun _ _ => []) 0 t dl (fun _ _ => none) g' ∧ ∀ (j : Nat) (o : O), g[j]? = some o → j ≠ b → g'[j]? = some o := by
  have e8 := f8 (k := k) (g := g) hs
  generalize hG1 : g.set b (.ins 27 [("sources", D.tup (ss.map encS))]) = G1 at *
  have hb1 : G1[b]? = some (.ins 27 [("sources", D.tup (ss.map encS))]) := by rw [← hG1]; exact set_get hb
  have m1 : ∀ (j : Nat) (o : O), g[j]? = some o → j ≠ b → G1[j]? = some o := fun j o h hj => by rw [← hG1, set_ne (fun q => hj q.symm)]; exact h
  obtain ⟨dl, h1, h2, h3⟩ := pairsAt_ex ss G1.length hs.nd
  have ec := comp_dicts (x0 := .val (.loc b)) (x1 := .val (.tup (ss.map encS))) ss G1
  rw [h1] at ec
  have hd := dctOf_nodup (fun p : Src => p.1) (fun p => .loc (dl p.1)) ss [] (by
    have := nodup_inr hs.nd
    rw [List.map_map] at this
    exact this)
  rw [List.nil_append] at hd
  have hs2 : ss.length ≤ LIM := Nat.le_trans hs.hi (by decide)
  generalize hG2 : G1 ++ List.replicate ss.length (O.dct []) = G2 at *
  have len2 : G2.length = G1.length + ss.length := by rw [← hG2]; simp
  have m2 : ∀ (j : Nat) (o : O), G1[j]? = some o → G2[j]? = some o := fun j o h => by
    rw [← hG2, List.getElem?_append_left (List.getElem?_eq_some_iff.mp h).1]; exact h
  have d2 : ∀ p ∈ ss, G2[dl p.1]? = some (.dct []) := fun p hp => by
    have := h2 p hp
    rw [← hG2, List.getElem?_append_right this.1, List.getElem?_replicate, if_pos (by omega)]
  generalize hG3 : G2 ++ [O.dct (ss.map fun p => ((.inr p.1 : Key), D.loc (dl p.1)))] = G3 at *
  have m3 : ∀ (j : Nat) (o : O), G2[j]? = some o → G3[j]? = some o := fun j o h => by rw [← hG3]; exact app_get h
  have hb3 := m3 _ _ (m2 _ _ hb1)
  have t3 : G3[G2.length]? = some (.dct (ss.map fun p => ((.inr p.1 : Key), D.loc (dl p.1)))) := by rw [← hG3]; simp
  have tb : G2.length ≠ b := fun q => by rw [← q, t3] at hb3; cases hb3
  refine ⟨G2.length, dl, G3.set b (bO ss G2.length 0), ?_, ⟨set_get hb3, ?_, ?_, h3, ?_, ?_, fun _ _ _ _ => rfl, ?_, fun _ _ => Nat.le_refl _, ?_⟩, ?_⟩
  · show mFun 2 4 (b_Book___init__ (tab (k + 4))) [.loc b, .tup (ss.map encS)] g = _
    have s4 : ∀ x : O, (G3.set b x)[b]? = some x := fun x => set_get hb3
    simp [mFun, b_Book___init__, permL, e8, hb, putD, hG1, eDComp, blkE, wipeE, hideS, ec, hs2, hd, hG3, hb3, s4, b_st, b_sk, b_sc, b_tk, b_tc, b_kc, List.set_set, endR]
    rfl
  · rw [set_ne (fun q => tb q.symm)]; exact t3
  · intro p hp q
    have := h2 p hp; omega
  · intro p hp
    refine ⟨[], ?_, Nat.le_refl _, fun _ => rfl⟩
    have x := m3 _ _ (d2 p hp)
    rw [set_ne (fun q => by rw [← q, hb3] at x; cases x)]; exact x
  · intro p hp row r h; cases h
  · intro p hp q hq row row' r h; cases h
  · intro s row e he; cases he
  · intro j o h hj
    rw [set_ne (fun q => hj q.symm)]; exact m3 _ _ (m2 _ _ (m1 j o h hj))
/-! ### the turns as the law reckons them -/
theorem turnsF_len (s : Str) (row : Int) : ∀ (ls : List LT) (i : Nat) (acc : List (Int × LT)), (turnsF s row i acc ls).length ≤ acc.length + ls.length
  | [], i, acc => by simp [turnsF]
  | l :: ls, i, acc => by
    have h1 := turnsF_len s row ls (i + 1) (stepT s row acc i l)
    have h2 := stepT_len (s := s) (row := row) (i := i) (l := l) (Nat.le_refl acc.length)
    simp only [turnsF, List.length_cons]; omega
theorem turnsF_mem (s : Str) (row : Int) : ∀ (ls : List LT) (i : Nat) (acc : List (Int × LT)), (∀ l ∈ ls, LetOk ss l) → (∀ e ∈ acc, LetOk ss e.2 ∧ e.2.src = s) → ∀ e ∈ turnsF s row i acc ls, LetOk ss e.2 ∧ e.2.src = s
  | [], i, acc, _, h => h
  | l :: ls, i, acc, hl, h => turnsF_mem s row ls (i + 1) _ (fun x hx => hl x (List.mem_cons_of_mem _ hx)) (stepT_mem (hl l (by simp)) h)
theorem cut_encL {l : LT} : cutop (deref g (encL l)) (some 1) (some 3) g = .ok (.tup [.str l.src, .int l.row]) g := by
  obtain ⟨src, row, ver, body⟩ := l
  cases body <;> rfl
theorem eq_place {a s : Str} {i row : Int} (ha : sOk a) (hs : sOk s) : cmpop .Eq (.tup [.str a, .int i]) (.tup [.str s, .int row]) g = .ok (.bl (decide (a = s) && decide (i = row))) g := by
  rw [eq_ap]
  have o1 : okD (.tup [.str a, .int i]) 64 = true := by simp only [okD, okDs, Bool.and_true]; exact ha
  have o2 : okD (.tup [.str s, .int row]) 64 = true := by simp only [okD, okDs, Bool.and_true]; exact hs
  show guardR (okE (.tup [.str a, .int i]) (.tup [.str s, .int row])) _ g = _
  rw [okE_ok o1 o2]
  show R.ok (D.bl (eqD (.tup [.str a, .int i]) (.tup [.str s, .int row]))) g = _
  simp only [eqD, eqDs, str_beq, Bool.and_true]; rfl
theorem pl_encT {e : Int × LT} (h : LetOk ss e.2) : plD (encT e) = true := by simp [encT, plD, plDs, pl_encL h]
theorem fr_encT {e : Int × LT} (h : LetOk ss e.2) : frD (encT e) = true := by simp [encT, frD, frDs, fr_encL h]
theorem f25 {ls : List LT} {s : Str} {row : Int} (hs : SsOk ss) (hls : ∀ l ∈ ls, LetOk ss l) (hlen : ls.length ≤ 1000) (hso : sOk s) :
    tab (k + 2) 25 [.lst (ls.map encL), .tup [.str s, .int row]] g = .ok (.lst ((turnsF s row 0 [] ls).map encT)) g := by
  obtain ⟨env', g', e3, hgg, x3, x4, rfl⟩ := forL_ix (tg := gTp 2 (gsCons (gNm 3) (gsCons (gNm 4) gsNil))) (b := lp__law_turns_1 (tab (k + 1))) (fun j env g' => g' = g ∧ ∃ x3 x4 : Sl, env = [.val (.lst (ls.map encL)), .val (.tup [.str s, .int row]), .own ((turnsF s row 0 [] (ls.take j)).map encT), x3, x4]) (enumD 0 (ls.map encL)) 0 (by
    intro i d hd env gg ⟨hg, x3, x4, h⟩
    subst hg h
    obtain ⟨x, rfl, hx⟩ := enumD_get hd
    rw [List.getElem?_map] at hx
    have hi : i < ls.length := by
      rcases Nat.lt_or_ge i ls.length with h | h
      · exact h
      · rw [List.getElem?_eq_none h] at hx; cases hx
    rw [List.getElem?_eq_getElem hi] at hx
    have hx' : x = encL ls[i] := (Option.some.inj hx).symm
    subst hx'
    rw [Nat.zero_add]
    have hlo := hls _ (List.getElem_mem hi)
    generalize hts : turnsF s row 0 [] (ls.take i) = ts at *
    have hnext : turnsF s row 0 [] (ls.take (i + 1)) = stepT s row ts i ls[i] := by
      rw [List.take_add_one, List.getElem?_eq_getElem hi, Option.toList_some, turnsF_snoc, hts, List.length_take, Nat.min_eq_left (by omega), Nat.zero_add]
    have hmem : ∀ e ∈ ts, LetOk ss e.2 ∧ e.2.src = s := by
      rw [← hts]; exact turnsF_mem s row _ 0 [] (fun l hl => hls l (List.mem_of_mem_take hl)) (fun _ q => nomatch q)
    have htl : ts.length ≤ 1000 := by
      have := turnsF_len s row (ls.take i) 0 []
      rw [hts, List.length_take] at this
      simp only [List.length_nil] at this; omega
    have hll : ts.length < LIM := Nat.lt_of_le_of_lt htl (by decide)
    generalize ls[i] = l at *
    obtain ⟨cols, hp, _⟩ := id hlo
    have ep : ∀ g, cmpop .Eq (.tup [.str l.src, .int l.row]) (.tup [.str s, .int row]) g = .ok (.bl (decide (l.src = s) && decide (l.row = row))) g := fun g => eq_place (hs.nm _ hp).sm.2 hso
    have fr : frDs (ts.map encT) = true := frDs_of fun x hx => by
      obtain ⟨e, he, rfl⟩ := List.mem_map.mp hx
      exact fr_encT (hmem e he).1
    have en := eq_nilL (g := []) (ds := ts.map encT) (fun x hx => by
      obtain ⟨e, he, rfl⟩ := List.mem_map.mp hx
      exact ok_encT hs (hmem e he).1)
    refine ⟨_, rfl, ?_⟩
    rw [hnext]
    refine ⟨_, gg, ?_, rfl, .val (.int (i : Int)), .val (encL l), rfl⟩
    by_cases q : l.src = s ∧ l.row = row
    · obtain ⟨q1, q2⟩ := q
      have st : stepT s row ts i l = if addB ts l = true then ts ++ [((i : Int) + 1, l)] else ts := by
        unfold stepT; rw [if_pos ⟨q1, q2⟩]
      rw [st]
      have ep' : ∀ g, cmpop .Eq (.tup [.str l.src, .int l.row]) (.tup [.str s, .int row]) g = .ok (.bl true) g := fun g => by rw [ep g, q1, q2]; simp
      cases hq : ts.getLast? with
      | none =>
        have : ts = [] := by simpa using hq
        subst this
        have en0 : cmpop .Eq (.lst []) (.lst []) [] = .ok (.bl true) [] := rfl
        have l0 : 0 < LIM := by decide
        simp [lp__law_turns_1, cut_encL, ep', frDs, hidE, en0, addB, lim2, l0, encT]
      | some e =>
        have hne : ts ≠ [] := fun z => by simp [z] at hq
        have hem : e ∈ ts := List.mem_of_getLast? hq
        have h1 : (ts.map encT).isEmpty = false := by
          cases ts with
          | nil => exact absurd rfl hne
          | cons a b => rfl
        rw [h1] at en
        have hat : atI (ts.map encT) (-1) = some (encT e) := atI_last (by rw [List.getLast?_map, hq]; rfl)
        have a1 : atI [D.int e.1, encL e.2] 1 = some (encL e.2) := rfl
        have d3 : deref gg (encT e) = .tup [.int e.1, encL e.2] := rfl
        have lt := f24 (k := k) (g := gg) hs (hmem e hem).1 hlo ((hmem e hem).2.trans q1.symm)
        have ha : addB ts l = lessL e.2 l := by simp only [addB, hq]
        rw [ha]
        cases hc : lessL e.2 l with
        | true =>
          rw [hc] at lt
          simp [lp__law_turns_1, cut_encL, ep', fr, hidE, en, hat, pl_encT (hmem e hem).1, d3, a1, permL, lt, lim2, hll]
          rfl
        | false =>
          rw [hc] at lt
          simp [lp__law_turns_1, cut_encL, ep', fr, hidE, en, hat, pl_encT (hmem e hem).1, d3, a1, permL, lt]
    · have st : stepT s row ts i l = ts := by
        unfold stepT; rw [if_neg q]
      have q' : (decide (l.src = s) && decide (l.row = row)) = false := by simpa using q
      simp only [q'] at ep
      rw [st]
      simp [lp__law_turns_1, cut_encL, ep]) _ _ ⟨rfl, .un, .un, rfl⟩
  show mFun 2 5 (b__law_turns (tab (k + 1))) [.lst (ls.map encL), .tup [.str s, .int row]] g = _
  have hfin : turnsF s row 0 [] (ls.take (0 + (enumD 0 (ls.map encL)).length)) = turnsF s row 0 [] ls := by
    rw [enumD_len, List.length_map, Nat.zero_add, List.take_length]
  rw [hfin, hgg] at e3
  simp only [List.take_zero, turnsF, List.map_nil] at e3
  have l0 : (0 : Nat) ≤ LIM := by decide
  simp [mFun, b__law_turns, l0, e3, endR]
end
end LW

namespace LW
open PySem L2 GL
section
variable {k : Nat} {g : Gh} {ss : List Src}
/-! ### how turns are shown -/
theorem bdDs_of {n : Nat} {xs : List D} (h : ∀ x ∈ xs, bdD n x = true) : bdDs n xs = true := by
  induction xs with
  | nil => rfl
  | cons x xs ih => simp only [bdDs, h x (by simp), ih fun y hy => h y (List.mem_cons_of_mem _ hy), Bool.and_true]
theorem wtDs_of {n B : Nat} {xs : List D} (h : ∀ x ∈ xs, wtD n x ≤ B) : wtDs n xs ≤ (B + 2) * xs.length := by
  induction xs with
  | nil => simp [wtDs]
  | cons x xs ih =>
    have h1 := h x (by simp)
    have h2 := ih fun y hy => h y (List.mem_cons_of_mem _ hy)
    simp only [wtDs, List.length_cons, Nat.mul_add]; omega
theorem cell_wt {kind : Str} {d : D} (h : CellK kind d) : bdD 30 d = true ∧ wtD 30 d ≤ 82 := by
  rcases h with rfl | ⟨_, i, rfl, h1, h2⟩ | ⟨_, s, rfl, h⟩
  · exact ⟨rfl, by decide⟩
  · refine ⟨?_, by simp [wtD]⟩
    simp only [bdD, decide_eq_true_eq]; omega
  · refine ⟨rfl, ?_⟩
    have := h.h.2.1
    simp only [wtD]; omega
theorem turn_wt {e : Int × LT} (hs : SsOk ss) (h : LetOk ss e.2) (h0 : 0 ≤ e.1) (h1 : e.1 ≤ 1000) : bdD 30 (encT e) = true ∧ wtD 30 (encT e) ≤ 1000 := by
  obtain ⟨i, src, row, ver, body⟩ := e
  obtain ⟨cols, hp, hr1, hr2, hv1, hv2, hb⟩ := h
  simp only at h0 h1 hp hr1 hr2 hv1 hv2 hb
  have hsl := (hs.nm _ hp).h.2.1
  simp only at hsl
  have bi : i.natAbs < 2 ^ 30 := by omega
  have br : row.natAbs < 2 ^ 30 := by omega
  have bv : ver.natAbs < 2 ^ 30 := by omega
  have u1 : (Str.ofString "unsay").length = 5 := by decide +kernel
  have u2 : (Str.ofString "say").length = 3 := by decide +kernel
  cases body with
  | none =>
    refine ⟨by simp [encT, encL, bdD, bdDs, bi, br, bv], ?_⟩
    simp only [encT, encL, wtD, wtDs, u1]; omega
  | some b =>
    obtain ⟨key, m, cs⟩ := b
    obtain ⟨hk, hm1, hm2, zs, hz1, rfl, hz⟩ := hb
    have hkl := hk.h.2.1
    have bm : m.natAbs < 2 ^ 30 := by omega
    have hi := (hs.co _ hp).hi
    rw [hz1] at hi
    simp only [List.length_map] at hi
    have bc : bdDs 30 (zs.map (·.2)) = true := bdDs_of fun x hx => by
      obtain ⟨z, hz', rfl⟩ := List.mem_map.mp hx
      exact (cell_wt (hz z hz')).1
    have wc := wtDs_of (n := 30) (B := 82) (xs := zs.map (·.2)) fun x hx => by
      obtain ⟨z, hz', rfl⟩ := List.mem_map.mp hx
      exact (cell_wt (hz z hz')).2
    rw [List.length_map] at wc
    have : (82 + 2) * zs.length ≤ 84 * 3 := Nat.mul_le_mul_left _ hi
    refine ⟨by simp [encT, encL, bdD, bdDs, bi, br, bv, bm, bc], ?_⟩
    simp only [encT, encL, wtD, wtDs, u2]; omega
theorem turns_rpr {ts : List (Int × LT)} (hs : SsOk ss) (hl : ts.length ≤ 60) (h : ∀ e ∈ ts, LetOk ss e.2 ∧ 0 ≤ e.1 ∧ e.1 ≤ 1000) : rprOk (.lst (ts.map encT)) = true := by
  have h1 := fun e he => turn_wt hs (h e he).1 (h e he).2.1 (h e he).2.2
  have ho : okD (.lst (ts.map encT)) 64 = true := by
    simp only [okD, okDs_all, List.all_eq_true]
    intro d hd
    obtain ⟨e, he, rfl⟩ := List.mem_map.mp hd
    exact ok_encT hs (h e he).1
  refine rpr_ok 30 70000 (by decide) (by decide) ho ?_ ?_ (by decide)
  · simp only [bdD]
    exact bdDs_of fun x hx => by
      obtain ⟨e, he, rfl⟩ := List.mem_map.mp hx
      exact (h1 e he).1
  · have := wtDs_of (n := 30) (B := 1000) (xs := ts.map encT) fun x hx => by
      obtain ⟨e, he, rfl⟩ := List.mem_map.mp hx
      exact (h1 e he).2
    rw [List.length_map] at this
    have : (1000 + 2) * ts.length ≤ 1002 * 60 := Nat.mul_le_mul_left _ hl
    simp only [wtD]; omega
theorem turnsF_tick (s : Str) (row : Int) : ∀ (ls : List LT) (i : Nat) (acc : List (Int × LT)), (∀ e ∈ acc, 0 ≤ e.1 ∧ e.1 ≤ i) → ∀ e ∈ turnsF s row i acc ls, 0 ≤ e.1 ∧ e.1 ≤ ((i + ls.length : Nat) : Int)
  | [], i, acc, h => h
  | l :: ls, i, acc, h => by
    intro e he
    have := turnsF_tick s row ls (i + 1) (stepT s row acc i l) (by
      intro x hx
      have hold : ∀ x ∈ acc, 0 ≤ x.1 ∧ x.1 ≤ ((i + 1 : Nat) : Int) := fun x hx => by have := h x hx; omega
      unfold stepT at hx
      split at hx
      · split at hx
        · rcases List.mem_append.mp hx with hx | hx
          · exact hold x hx
          · simp only [List.mem_cons, List.not_mem_nil, or_false] at hx
            subst hx; simp only; omega
        · exact hold x hx
      · exact hold x hx) e he
    simp only [List.length_cons]
    omega
/-! ### the law -/
def SB (b : Nat) (ss : List Src) (ls : List LT) (j : Nat) (g : Gh) : Prop := ∃ t dl rl, Bk b ss (fun s row => turnsF s row 0 [] (ls.take j)) j t dl rl g
theorem takes {ns : List Int} {b : Nat} {x0 x1 x2 x6 x7 x8 x9 x10 x11 : Sl} {ls : List LT} (hs : SsOk ss) (hls : ∀ l ∈ ls, LetOk ss l) (hlen : ls.length ≤ 40) (hB : SB b ss ls 0 g) :
    ∃ y6 g', forL none (gNm 6) (lp_law_1 (tab (k + 6))) (ls.map encL) [x0, x1, x2, .val (.tup (ss.map encS)), .val (.loc b), .val (.lst (ls.map encL)), x6, x7, x8, x9, x10, x11] g = .nx [x0, x1, x2, .val (.tup (ss.map encS)), .val (.loc b), .val (.lst (ls.map encL)), y6, x7, x8, x9, x10, x11] g' ∧ SB b ss ls ls.length g' := by
  obtain ⟨env', g', e3, hB', y6, rfl⟩ := forL_ix (tg := gNm 6) (b := lp_law_1 (tab (k + 6))) (fun j env g' => SB b ss ls j g' ∧ ∃ y6 : Sl, env = [x0, x1, x2, .val (.tup (ss.map encS)), .val (.loc b), .val (.lst (ls.map encL)), y6, x7, x8, x9, x10, x11]) (ls.map encL) 0 (by
    intro i d hd env gg ⟨⟨t, dl, rl, hB⟩, y6, h⟩
    subst h
    rw [List.getElem?_map] at hd
    have hi : i < ls.length := by
      rcases Nat.lt_or_ge i ls.length with h | h
      · exact h
      · rw [List.getElem?_eq_none h] at hd; cases hd
    rw [List.getElem?_eq_getElem hi] at hd
    have hd' : d = encL ls[i] := (Option.some.inj hd).symm
    subst hd'
    rw [Nat.zero_add] at hB ⊢
    obtain ⟨c, rl', g', e, hB'⟩ := f13 (k := k) hs hB (by omega) (hls _ (List.getElem_mem hi))
    refine ⟨_, rfl, _, g', ?_, ⟨t, dl, rl', ?_⟩, .val (encL ls[i]), rfl⟩
    · simp [lp_law_1, isInsOk, hB.hb, permL, e, noX]
    · have : (fun s row => turnsF s row 0 [] (ls.take (i + 1))) = fun s row => stepT s row (turnsF s row 0 [] (ls.take i)) i ls[i] := by
        funext s row
        rw [List.take_add_one, List.getElem?_eq_getElem hi, Option.toList_some, turnsF_snoc, List.length_take, Nat.min_eq_left (by omega), Nat.zero_add]
      rw [this]; exact hB') _ _ ⟨hB, x6, rfl⟩
  rw [List.length_map, Nat.zero_add] at hB'
  exact ⟨y6, g', e3, hB'⟩
theorem SB.mono {b : Nat} {ls : List LT} {j : Nat} {g' : Gh} (h : SB b ss ls j g) (hm : ∀ (j : Nat) (o : O), g[j]? = some o → g'[j]? = some o) : SB b ss ls j g' := by
  obtain ⟨t, dl, rl, h⟩ := h
  exact ⟨t, dl, rl, h.mono hm⟩
theorem ask {x0 x1 x2 x6 x8 x10 x11 : Sl} {b : Nat} {ls : List LT} {p : Src} {row : Int} (hs : SsOk ss) (hls : ∀ l ∈ ls, LetOk ss l) (hlen : ls.length ≤ 40) (hp : p ∈ ss) (hB : SB b ss ls ls.length g) :
    ∃ y10 y11 g', lp_law_2 (tab (k + 2)) [x0, x1, x2, .val (.tup (ss.map encS)), .val (.loc b), .val (.lst (ls.map encL)), x6, .val (.str p.1), x8, .val (.int row), x10, x11] g = .nx [x0, x1, x2, .val (.tup (ss.map encS)), .val (.loc b), .val (.lst (ls.map encL)), x6, .val (.str p.1), x8, .val (.int row), y10, y11] g' ∧ SB b ss ls ls.length g' := by
  obtain ⟨t, dl, rl, hB⟩ := hB
  rw [List.take_length] at hB
  have e25 := fun g => f25 (k := k) (g := g) (row := row) hs hls (by omega) (hs.nm p hp).sm.2
  have e15 := f15 (k := k) hs hB hp (row := row)
  have hmem := turnsF_mem (ss := ss) p.1 row ls 0 [] hls (fun _ q => nomatch q)
  have htick := turnsF_tick p.1 row ls 0 [] (fun _ q => nomatch q)
  have htl := turnsF_len p.1 row ls 0 []
  generalize hts : turnsF p.1 row 0 [] ls = ts at *
  simp only [List.length_nil, Nat.zero_add] at htl
  have hrp : rprOk (.lst (ts.map encT)) = true := turns_rpr hs (by omega) (fun e he => ⟨(hmem e he).1, by have := htick e he; omega⟩)
  have hok : okD (.lst (ts.map encT)) 64 = true := by
    simp only [okD, okDs_all, List.all_eq_true]
    intro d hd
    obtain ⟨e, he, rfl⟩ := List.mem_map.mp hd
    exact ok_encT hs (hmem e he).1
  generalize hG1 : g ++ [O.lst (ts.map encT)] = G1 at *
  have at1 : G1[g.length]? = some (.lst (ts.map encT)) := by rw [← hG1]; simp
  have m1 : ∀ (j : Nat) (o : O), g[j]? = some o → G1[j]? = some o := fun j o h => by rw [← hG1]; exact app_get h
  have hB1 := hB.mono m1
  have d1 : deref G1 (.loc g.length) = .lst (ts.map encT) := by simp [deref, at1]
  have r1 : oRepr [.loc g.length] G1 = .ok (.str (reprS (.lst (ts.map encT)))) G1 := by
    simp only [oRepr, d1, hrp, guardR, if_true]
  have r2 : oRepr [.lst (ts.map encT)] G1 = .ok (.str (reprS (.lst (ts.map encT)))) G1 := repr_ap hrp
  have nr : cmpop .NotEq (.str (reprS (.lst (ts.map encT)))) (.str (reprS (.lst (ts.map encT)))) G1 = .ok (.bl false) G1 := by
    rw [ne_ap]
    show guardR (okE (.str _) (.str _)) (.bl (!eqD (.str _) (.str _))) G1 = _
    simp [okE, strD, eqD, guardR]
  generalize hG2 : G1.set g.length (.lst []) = G2 at *
  have m2 : ∀ (j : Nat) (o : O), g[j]? = some o → G2[j]? = some o := fun j o h => by
    have := (List.getElem?_eq_some_iff.mp h).1
    rw [← hG2, set_ne (by omega)]; exact m1 j o h
  have hB2 := hB.mono m2
  have e15' := f15 (k := k) hs hB2 hp (row := row)
  simp only [hts] at e15'
  generalize hG3 : G2 ++ [O.lst (ts.map encT)] = G3 at *
  have at3 : G3[G2.length]? = some (.lst (ts.map encT)) := by rw [← hG3]; simp
  have m3 : ∀ (j : Nat) (o : O), g[j]? = some o → G3[j]? = some o := fun j o h => by rw [← hG3]; exact app_get (m2 j o h)
  have d3 : deref G3 (.loc G2.length) = .lst (ts.map encT) := by simp [deref, at3]
  have ne3 : cmpop .NotEq (.loc G2.length) (.lst (ts.map encT)) G3 = .ok (.bl false) G3 := by
    have := ne_same (g := G3) hok
    rw [ne_ap] at this ⊢
    rw [d3]; exact this
  refine ⟨.val (.lst (ts.map encT)), .val (.loc g.length), G3, ?_, ⟨t, dl, rl, by rw [List.take_length]; exact hB.mono m3⟩⟩
  simp [lp_law_2, permL, lim2, e25, isInsOk, hB.hb, e15, noX, d1, isList, r1, r2, nr, at1, hG2, hB2.hb, e15', ne3]
theorem rows_ok {x0 x1 x2 x6 x8 x9 x10 x11 : Sl} {b : Nat} {ls : List LT} {p : Src} (hs : SsOk ss) (hls : ∀ l ∈ ls, LetOk ss l) (hlen : ls.length ≤ 40) (hp : p ∈ ss) (hB : SB b ss ls ls.length g) :
    ∃ y9 y10 y11 g', lp_law_3 (tab (k + 2)) [x0, x1, x2, .val (.tup (ss.map encS)), .val (.loc b), .val (.lst (ls.map encL)), x6, .val (.str p.1), x8, x9, x10, x11] g = .nx [x0, x1, x2, .val (.tup (ss.map encS)), .val (.loc b), .val (.lst (ls.map encL)), x6, .val (.str p.1), x8, y9, y10, y11] g' ∧ SB b ss ls ls.length g' := by
  obtain ⟨env', g', e3, y9, y10, y11, hB', rfl⟩ := forL_inv (tg := gNm 9) (b := lp_law_2 (tab (k + 2))) (fun env g' => ∃ y9 y10 y11 : Sl, SB b ss ls ls.length g' ∧ env = [x0, x1, x2, .val (.tup (ss.map encS)), .val (.loc b), .val (.lst (ls.map encL)), x6, .val (.str p.1), x8, y9, y10, y11]) ([1, 2, 3, 4, 5, 6, 7, 999].map D.int) (by
    intro d hd env gg ⟨y9, y10, y11, hB, h⟩
    subst h
    obtain ⟨row, _, rfl⟩ := List.mem_map.mp hd
    obtain ⟨z10, z11, g', e, hB'⟩ := ask (k := k) (x0 := x0) (x1 := x1) (x2 := x2) (x6 := x6) (x8 := x8) (x10 := y10) (x11 := y11) (row := row) hs hls hlen hp hB
    exact ⟨_, rfl, _, g', e, _, _, _, hB', rfl⟩) _ _ ⟨x9, x10, x11, hB, rfl⟩
  refine ⟨y9, y10, y11, g', ?_, hB'⟩
  simp only [List.map_cons, List.map_nil] at e3
  simp [lp_law_3, lim8, e3]
theorem turn (k : Nat) {ns : List Int} {j : Nat} {g : Gh} (hj : j ≤ 1000000) {x2 x3 x4 x5 x6 x7 x8 x9 x10 x11 : Sl} :
    ∃ env' g', lp_law_4 (tab (k + 6)) [.val (.arr ns), .val (.int j), x2, x3, x4, x5, x6, x7, x8, x9, x10, x11] g = .nx env' g' ∧ ∃ x1 x2 x3 x4 x5 x6 x7 x8 x9 x10 x11 : Sl, env' = [.val (.arr ns), x1, x2, x3, x4, x5, x6, x7, x8, x9, x10, x11] := by
  obtain ⟨n, g1, hb1, e1⟩ := f16 (k := k + 5) (g := g) (ns := ns) hj
  obtain ⟨ss, g2, hs, hb2, e2⟩ := f18 (k := k + 4) hb1
  have hnew : (g2 ++ [O.ins 27 []])[g2.length]? = some (.ins 27 []) := by simp
  obtain ⟨t, dl, g3, e3, hB3, m3⟩ := f12 (k := k + 1) (g := g2 ++ [O.ins 27 []]) hs hnew
  have hb3 : HasBag n g3 := by
    obtain ⟨o, ho, hbo⟩ := hb2
    have hn : n < g2.length := (List.getElem?_eq_some_iff.mp ho).1
    exact ⟨o, m3 n o (app_get ho) (by omega), hbo⟩
  obtain ⟨ls, g4, hlen, hls, ⟨hb4, _, m4⟩, e4⟩ := f23 (k := k + 1) hb3 hs
  have hlo : ∀ {i : Nat} {o : O}, g3[i]? = some o → (∀ xs, o ≠ .lst xs) → g4[i]? = some o := fun {i o} h hn => by
    rw [m4 i (fun q => ?_)]
    · exact h
    · subst q
      obtain ⟨o', ho', hbo⟩ := hb3
      rw [h] at ho'
      cases ho'
      obtain ⟨_, _, _, _, rfl, _⟩ := hbo
      exact hn _ rfl
  have hB4 : SB g2.length ss ls 0 g4 := by
    refine ⟨t, dl, fun _ _ => none, ?_⟩
    have : (fun s row => turnsF s row 0 [] (ls.take 0)) = fun _ _ => ([] : List (Int × LT)) := by
      funext s row; rfl
    rw [this]
    refine ⟨hlo hB3.hb (fun _ q => nomatch q), hlo hB3.ht (fun _ q => nomatch q), hB3.hdt, hB3.hdi, fun p hp => ?_, (fun _ _ _ _ q => nomatch q), (fun _ _ _ _ => rfl), (fun _ _ _ _ _ _ _ q => nomatch q), hB3.tl, hB3.to⟩
    obtain ⟨kvs, a1, a2⟩ := hB3.hd p hp
    exact ⟨kvs, hlo a1 (fun _ q => nomatch q), a2⟩
  obtain ⟨y6, g5, e5, hB5⟩ := takes (k := k) (ns := ns) (x0 := .val (.arr ns)) (x1 := .val (.int j)) (x2 := .val (.loc n)) (x6 := x6) (x7 := x7) (x8 := x8) (x9 := x9) (x10 := x10) (x11 := x11) hs hls hlen hB4
  obtain ⟨env', g6, e6, hB6, y7, y8, y9, y10, y11, rfl⟩ := forL_inv (tg := gTp 2 (gsCons (gNm 7) (gsCons (gNm 8) gsNil))) (b := lp_law_3 (tab (k + 6))) (fun env g' => SB g2.length ss ls ls.length g' ∧ ∃ y7 y8 y9 y10 y11 : Sl, env = [.val (.arr ns), .val (.int j), .val (.loc n), .val (.tup (ss.map encS)), .val (.loc g2.length), .val (.lst (ls.map encL)), y6, y7, y8, y9, y10, y11]) (ss.map encS) (by
    intro d hd env gg ⟨hB, y7, y8, y9, y10, y11, h⟩
    subst h
    obtain ⟨p, hp, rfl⟩ := List.mem_map.mp hd
    obtain ⟨z9, z10, z11, g', e, hB'⟩ := rows_ok (k := k + 4) (x0 := .val (.arr ns)) (x1 := .val (.int j)) (x2 := .val (.loc n)) (x6 := y6) (x8 := .val (.tup (p.2.map encC))) (x9 := y9) (x10 := y10) (x11 := y11) hs hls hlen hp hB
    exact ⟨_, rfl, _, g', e, hB', _, _, _, _, _, rfl⟩) [.val (.arr ns), .val (.int j), .val (.loc n), .val (.tup (ss.map encS)), .val (.loc g2.length), .val (.lst (ls.map encL)), y6, x7, x8, x9, x10, x11] g5 ⟨hB5, x7, x8, x9, x10, x11, rfl⟩
  refine ⟨[.val (.arr ns), .val (.int j), .val (.loc n), .val (.tup (ss.map encS)), .val (.loc g2.length), .val (.lst (ls.map encL)), y6, y7, y8, y9, y10, y11], g6, ?_, _, _, _, _, _, _, _, _, _, _, _, rfl⟩
  simp [lp_law_4, permL, e1, e2, makeR, e3, e4, e5, e6]
theorem law_at (k : Nat) (ns : List Int) (hn : ns.length ≤ 63) : ∃ G, tab (k + 7) 26 [.arr ns] [] = .ok (.bl true) G := by
  obtain ⟨m, hm, em⟩ : ∃ m : Nat, m ≤ 1000 ∧ (if (if (ns.length : Int) < 4 then (ns.length : Int) else 4) > 2 then (if (ns.length : Int) < 4 then (ns.length : Int) else 4) else 2) = (m : Int) := by
    refine ⟨(if (if (ns.length : Int) < 4 then (ns.length : Int) else 4) > 2 then (if (ns.length : Int) < 4 then (ns.length : Int) else 4) else 2).toNat, ?_, ?_⟩ <;> split <;> split <;> omega
  have rm : rngOk (m : Int) = true := rng_nat (by omega)
  obtain ⟨env', g', e, x1, x2, x3, x4, x5, x6, x7, x8, x9, x10, x11, rfl⟩ := forL_inv (tg := gNm 1) (b := lp_law_4 (tab (k + 6))) (fun env g => ∃ x1 x2 x3 x4 x5 x6 x7 x8 x9 x10 x11 : Sl, env = [.val (.arr ns), x1, x2, x3, x4, x5, x6, x7, x8, x9, x10, x11]) (rangeD 0 m) (fun d hd env g ⟨x1, x2, x3, x4, x5, x6, x7, x8, x9, x10, x11, h⟩ => by
    subst h
    obtain ⟨z, hz, rfl⟩ := rangeD_mem hd
    refine ⟨_, rfl, ?_⟩
    have := turn k (g := g) (ns := ns) (j := z) (by omega) (x2 := x2) (x3 := x3) (x4 := x4) (x5 := x5) (x6 := x6) (x7 := x7) (x8 := x8) (x9 := x9) (x10 := x10) (x11 := x11)
    simpa using this) [.val (.arr ns), .un, .un, .un, .un, .un, .un, .un, .un, .un, .un, .un] [] ⟨_, _, _, _, _, _, _, _, _, _, _, rfl⟩
  refine ⟨g', ?_⟩
  show mFun 1 12 (b_law (tab (k + 6))) [.arr ns] [] = _
  simp [mFun, b_law]
  simp only [gt_iff_lt] at em
  simp [em, rm, e, endR]
theorem law_math (ns : List Int) (hn : ns.length ≤ 63) : ∃ G, tab 14 26 [.arr ns] [] = .ok (.bl true) G := law_at 7 ns hn
end
end LW
open PySem PySem.W PyProof.Rows in
set_option maxRecDepth 100000 in
set_option maxHeartbeats 0 in
theorem PySem.Challenge.cw_fednumbers_k08_turns_holds : PySem.Challenge.rw_fednumbers_k08_turns.Holds := by
  w_on; o_law; k_head; (case hw => w_witness2)
  k_fill
  refine GL.walk_G (l := PySem.Challenge.rw_fednumbers_k08_turns) (n := 63) (k := 28) (x := "_law_script") (m := LW.tab 14 26) rfl (by decide) rfl ⟨rfl, by decide, by decide⟩ (fun w h Y => PySem.W.kIn_of Y) ?F LW.law_math
  case F =>
    intro w mg fa h KX G hmg
    refine' LW.all_mk KX G hmg ?ca_Book ?cpg_Book ?chd_Book ?cpo_Book ?csa_Book ?ckp_Book ?cmk_Book ?cn_Book_sources ?cn_Book_turned ?cn_Book_ticks ?cn_Book_cut ?a1 ?l1 ?c1 ?k1 ?a2 ?l2 ?c2 ?k2 ?a3 ?l3 ?c3 ?k3 ?a4 ?l4 ?c4 ?k4 ?a5 ?l5 ?c5 ?k5 ?a6 ?l6 ?c6 ?k6 ?a7 ?l7 ?c7 ?k7 ?a8 ?l8 ?c8 ?k8 ?a9 ?l9 ?c9 ?k9 ?a10 ?l10 ?c10 ?k10 ?a11 ?l11 ?c11 ?k11 ?a12 ?n12 ?l12 ?c12 ?k12 ?a13 ?n13 ?l13 ?c13 ?k13 ?a14 ?n14 ?l14 ?c14 ?k14 ?a15 ?n15 ?l15 ?c15 ?k15 ?a16 ?l16 ?c16 ?k16 ?a17 ?l17 ?c17 ?k17 ?a18 ?l18 ?c18 ?k18 ?a19 ?l19 ?c19 ?k19 ?a20 ?l20 ?c20 ?k20 ?a21 ?l21 ?c21 ?k21 ?a22 ?l22 ?c22 ?k22 ?a23 ?l23 ?c23 ?k23 ?a24 ?l24 ?c24 ?k24 ?a25 ?l25 ?c25 ?k25 ?a26 ?l26 ?c26 ?k26 ?z_abs ?z_all ?z_bool ?z_enumerate ?z_int ?z_isinstance ?z_len ?z_list ?z_max ?z_min ?z_range ?z_repr ?z_str ?z_tuple ?z_zip ?m_FAR ?m_KINDS ?tl_KINDS ?kz_KINDS ?kd_KINDS ?m_LETTERS ?m_MOST_COLUMNS ?m_MOST_LETTERS ?m_MOST_ROW ?m_MOST_SOURCES ?m_MOST_VERSION ?m_NUMBER ?m_SAY ?m_UNSAY
    (case ca_Book => k_is)
    (case cpg_Book => k_is)
    (case chd_Book => k_is)
    (case cpo_Book => k_is)
    (case csa_Book => k_is)
    (case ckp_Book => k_is)
    (case cmk_Book => k_is)
    (case cn_Book_sources => k_is)
    (case cn_Book_turned => k_is)
    (case cn_Book_ticks => k_is)
    (case cn_Book_cut => k_is)
    (case a1 => k_is)
    (case l1 => k_is)
    (case c1 => k_is)
    (case k1 => k_is)
    (case a2 => k_is)
    (case l2 => k_is)
    (case c2 => k_is)
    (case k2 => k_is)
    (case a3 => k_is)
    (case l3 => k_is)
    (case c3 => k_is)
    (case k3 => k_is)
    (case a4 => k_is)
    (case l4 => k_is)
    (case c4 => k_is)
    (case k4 => k_is)
    (case a5 => k_is)
    (case l5 => k_is)
    (case c5 => k_is)
    (case k5 => k_is)
    (case a6 => k_is)
    (case l6 => k_is)
    (case c6 => k_is)
    (case k6 => k_is)
    (case a7 => k_is)
    (case l7 => k_is)
    (case c7 => k_is)
    (case k7 => k_is)
    (case a8 => k_is)
    (case l8 => k_is)
    (case c8 => k_is)
    (case k8 => k_is)
    (case a9 => k_is)
    (case l9 => k_is)
    (case c9 => k_is)
    (case k9 => k_is)
    (case a10 => k_is)
    (case l10 => k_is)
    (case c10 => k_is)
    (case k10 => k_is)
    (case a11 => k_is)
    (case l11 => k_is)
    (case c11 => k_is)
    (case k11 => k_is)
    (case a12 => k_is)
    (case n12 => k_is)
    (case l12 => k_is)
    (case c12 => k_is)
    (case k12 => k_is)
    (case a13 => k_is)
    (case n13 => k_is)
    (case l13 => k_is)
    (case c13 => k_is)
    (case k13 => k_is)
    (case a14 => k_is)
    (case n14 => k_is)
    (case l14 => k_is)
    (case c14 => k_is)
    (case k14 => k_is)
    (case a15 => k_is)
    (case n15 => k_is)
    (case l15 => k_is)
    (case c15 => k_is)
    (case k15 => k_is)
    (case a16 => k_is)
    (case l16 => k_is)
    (case c16 => k_is)
    (case k16 => k_is)
    (case a17 => k_is)
    (case l17 => k_is)
    (case c17 => k_is)
    (case k17 => k_is)
    (case a18 => k_is)
    (case l18 => k_is)
    (case c18 => k_is)
    (case k18 => k_is)
    (case a19 => k_is)
    (case l19 => k_is)
    (case c19 => k_is)
    (case k19 => k_is)
    (case a20 => k_is)
    (case l20 => k_is)
    (case c20 => k_is)
    (case k20 => k_is)
    (case a21 => k_is)
    (case l21 => k_is)
    (case c21 => k_is)
    (case k21 => k_is)
    (case a22 => k_is)
    (case l22 => k_is)
    (case c22 => k_is)
    (case k22 => k_is)
    (case a23 => k_is)
    (case l23 => k_is)
    (case c23 => k_is)
    (case k23 => k_is)
    (case a24 => k_is)
    (case l24 => k_is)
    (case c24 => k_is)
    (case k24 => k_is)
    (case a25 => k_is)
    (case l25 => k_is)
    (case c25 => k_is)
    (case k25 => k_is)
    (case a26 => k_is)
    (case l26 => k_is)
    (case c26 => k_is)
    (case k26 => k_is)
    (case z_abs => k_is)
    (case z_all => k_is)
    (case z_bool => k_is)
    (case z_enumerate => k_is)
    (case z_int => k_is)
    (case z_isinstance => k_is)
    (case z_len => k_is)
    (case z_list => k_is)
    (case z_max => k_is)
    (case z_min => k_is)
    (case z_range => k_is)
    (case z_repr => k_is)
    (case z_str => k_is)
    (case z_tuple => k_is)
    (case z_zip => k_is)
    (case m_FAR => k_is)
    (case m_KINDS => k_is)
    (case tl_KINDS => k_is)
    (case kz_KINDS => decide)
    (case kd_KINDS => repeat (first | exact .nil | refine .cons ?_ ?_ | exact .int _ _ | exact .str _ _ | exact .bl _ | exact .non))
    (case m_LETTERS => k_is)
    (case m_MOST_COLUMNS => k_is)
    (case m_MOST_LETTERS => k_is)
    (case m_MOST_ROW => k_is)
    (case m_MOST_SOURCES => k_is)
    (case m_MOST_VERSION => k_is)
    (case m_NUMBER => k_is)
    (case m_SAY => k_is)
    (case m_UNSAY => k_is)
