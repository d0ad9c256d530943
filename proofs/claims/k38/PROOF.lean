import PyProof.Rows.All
import Wide.All
import OpenK.AllK
import Wide.FinOn
import HandS.ForMost
import HandS.Wide
import HandS.Defaults
import HandS.Zip
import HandS.IsInst
import HandS.Deep
import HandS.TupAny
import HandS.Text
import HandS.RaiseMore
import HandS.More
import HandS.Style
import KE.GoesMore
import KE.GoesEnumKw
import HandS.TupLe
import HandS.Flow
import PyProof.Rows.IntBool
import PySem.Challenge.RW_fednumbers_k38_whole_the_best_test
set_option Elab.async false
set_option linter.all false
set_option maxRecDepth 100000
set_option maxHeartbeats 4000000
/-! GL: a clean deterministic reading of Python bodies over HandS. Part 1: values, heap, results, combinators. -/
namespace GL
open PySem L2

/-- a clean value: data by value, `loc` a mutable object, `fn` a def or a class of the program, `arr` the script -/
inductive D where
  | non | bl (b : Bool) | int (i : Int) | str (x : Str) | tup (xs : List D) | lst (xs : List D) | loc (n : Nat) | fn (s : Nat) | arr (ns : List Int)
  deriving Inhabited

/-- a mutable object -/
inductive O where
  | lst (xs : List D) | ins (c : Nat) (fs : List (Str × D))
  deriving Inhabited
abbrev Gh := List O

structure Xv where
  cls : Nat
  fs : List (Str × D)

inductive R (α : Type) where
  | ok (a : α) (g : Gh) | exc (x : Xv) (g : Gh) | bad

def R.bind {α β : Type} : R α → (α → Gh → R β) → R β
  | .ok a g, f => f a g
  | .exc x g, _ => .exc x g
  | .bad, _ => .bad
@[simp] theorem R.bind_ok {α β : Type} (a : α) (g : Gh) (f : α → Gh → R β) : (R.ok a g).bind f = f a g := rfl
@[simp] theorem R.bind_bad {α β : Type} (f : α → Gh → R β) : (R.bad : R α).bind f = .bad := rfl
@[simp] theorem R.bind_exc {α β : Type} (x : Xv) (g : Gh) (f : α → Gh → R β) : (R.exc x g : R α).bind f = .exc x g := rfl

/-- a slot of a frame -/
inductive Sl where
  | un | val (d : D) | own (xs : List D)
  deriving Inhabited
abbrev Env' := List Sl
abbrev ME := Env' → Gh → R D
abbrev MT := Env' → Gh → R Bool
abbrev ML := Env' → Gh → R (List D)

/-! ### data: equality, depth -/
mutual
def eqD : D → D → Bool
  | .non, .non => true
  | .bl a, .bl b => a == b
  | .bl a, .int j => (if a then 1 else 0) == j
  | .int i, .bl b => i == (if b then 1 else 0)
  | .int i, .int j => i == j
  | .str x, .str y => x == y
  | .tup xs, .tup ys => eqDs xs ys
  | .lst xs, .lst ys => eqDs xs ys
  | _, _ => false
def eqDs : List D → List D → Bool
  | [], [] => true
  | x :: xs, y :: ys => eqD x y && eqDs xs ys
  | _, _ => false
end
mutual
/-- plain data no deeper than n -/
def okD : D → Nat → Bool
  | .non, _ | .bl _, _ | .int _, _ => true
  | .str x, _ => PyData.strOk x
  | .tup _, 0 | .lst _, 0 => false
  | .tup xs, n + 1 | .lst xs, n + 1 => okDs xs n
  | .loc _, _ | .fn _, _ | .arr _, _ => false
def okDs : List D → Nat → Bool
  | [], _ => true
  | x :: xs, n => okD x n && okDs xs n
end
mutual
def toP : D → PyData
  | .non => .none
  | .bl b => .bool b
  | .int i => .int i
  | .str x => .str x
  | .tup xs => .tuple (toPs xs)
  | .lst xs => .list (toPs xs)
  | .loc _ | .fn _ | .arr _ => .none
def toPs : List D → List PyData
  | [] => []
  | x :: xs => toP x :: toPs xs
end
theorem okDs_all (xs : List D) (n : Nat) : okDs xs n = xs.all (okD · n) := by
  induction xs with
  | nil => rw [okDs]; rfl
  | cons x xs ih => rw [okDs, ih]; rfl
theorem toPs_map (xs : List D) : toPs xs = xs.map toP := by
  induction xs with
  | nil => rw [toPs]; rfl
  | cons x xs ih => rw [toPs, ih]; rfl

/-! ### operations on values -/
def LIM : Nat := 100000
theorem lim_le {n : Nat} (h : n ≤ LIM) : n ≤ sizeLine := Nat.le_trans h (by decide)
theorem lim_lt {n : Nat} (h : n < LIM) : n < sizeLine := Nat.lt_of_lt_of_le h (by decide)
/-- a mutable list is read as it stands -/
def deref (g : Gh) : D → D
  | .loc n => match g[n]? with
    | some (.lst xs) => .lst xs
    | _ => .loc n
  | d => d
def guardR (b : Bool) (d : D) (g : Gh) : R D := if b then .ok d g else .bad
/-- what the sizes of ints must be; told as truths that are not reckoned -/
def MulOk (i j : Int) : Prop := ((-(2 ^ 64) < i ∧ i < 2 ^ 64) ∨ (-(2 ^ 64) < j ∧ j < 2 ^ 64)) ∨ i.natAbs.log2 + j.natAbs.log2 < 1000000
def DivOk (j : Int) : Prop := j ≠ 0 ∧ j.natAbs.log2 < 9000
def PowOk (i j : Int) : Prop := (0 ≤ j ∧ j ≤ 1000000) ∧ i.natAbs < 2 ^ 64
noncomputable def tru (p : Prop) : Bool := @decide p (Classical.propDecidable p)
theorem tru_iff {p : Prop} : tru p = true ↔ p := by unfold tru; exact @decide_eq_true_iff p (Classical.propDecidable p)
noncomputable def mulOk (i j : Int) : Bool := tru (MulOk i j)
noncomputable def divOk (j : Int) : Bool := tru (DivOk j)
noncomputable def powOk (i j : Int) : Bool := tru (PowOk i j)
noncomputable def binopV : Operator → D → D → Gh → R D
  | .Add, .int i, .int j, g => .ok (.int (i + j)) g
  | .Add, .str x, .str y, g => guardR (decide (x.length + y.length ≤ LIM)) (.str (x ++ y)) g
  | .Add, .tup xs, .tup ys, g => guardR (decide (xs.length + ys.length ≤ LIM)) (.tup (xs ++ ys)) g
  | .Add, .lst xs, .lst ys, g => guardR (decide (xs.length + ys.length ≤ LIM)) (.lst (xs ++ ys)) g
  | .Sub, .int i, .int j, g => .ok (.int (i - j)) g
  | .Mult, .int i, .int j, g => guardR (mulOk i j) (.int (i * j)) g
  | .Mult, .lst xs, .int k, g => guardR (decide (0 ≤ k) && decide (k ≤ 1000) && decide (xs.length * k.toNat ≤ LIM)) (.lst (List.replicate k.toNat xs).flatten) g
  | .FloorDiv, .int i, .int j, g => guardR (divOk j) (.int (i.fdiv j)) g
  | .Mod, .int i, .int j, g => guardR (decide (j ≠ 0)) (.int (i.fmod j)) g
  | .Pow, .int i, .int j, g => guardR (powOk i j) (.int (i ^ j.toNat)) g
  | _, _, _, _ => .bad
noncomputable def binop (op : Operator) (x y : D) (g : Gh) : R D := binopV op (deref g x) (deref g y) g
def flatD : D → Bool
  | .non | .bl _ | .int _ | .str _ => true
  | _ => false
def isNon : D → Bool
  | .non => true
  | _ => false
def memD (x : D) (ys : List D) : Bool := ys.any fun z => eqD z x
def inD : D → D → Gh → R D
  | x, .lst ys, g => guardR (okD x 64 && okD (.lst ys) 64) (.bl (memD x ys)) g
  | x, .tup ys, g => guardR (flatD x && ys.all flatD) (.bl (memD x ys)) g
  | .str x, .str z, g => guardR (x.cps.size == 1) (.bl (decide (x.cps.getD 0 0 ∈ z.cps.toList))) g
  | _, _, _ => .bad
def notR : R D → R D
  | .ok (.bl b) g => .ok (.bl (!b)) g
  | .exc x g => .exc x g
  | _ => .bad
def ltD : D → D → Gh → R D
  | .int i, .int j, g => .ok (.bl (decide (i < j))) g
  | .str i, .str j, g => .ok (.bl (decide (i.cps.toList < j.cps.toList))) g
  | _, _, _ => .bad
def strD : D → Bool
  | .str _ => true
  | _ => false
/-- what may be asked for equality: two texts, or plain data -/
def okE (x y : D) : Bool := (strD x && strD y) || (okD x 64 && okD y 64)
def cmpopV : CmpOp → D → D → Gh → R D
  | .Eq, x, y, g => guardR (okE x y) (.bl (eqD x y)) g
  | .NotEq, x, y, g => guardR (okE x y) (.bl (!eqD x y)) g
  | .Lt, x, y, g => ltD x y g
  | .Gt, x, y, g => ltD y x g
  | .GtE, x, y, g => notR (ltD x y g)
  | .LtE, x, y, g => notR (ltD y x g)
  | .In, x, y, g => inD x y g
  | .NotIn, x, y, g => notR (inD x y g)
  | .Is, x, .non, g => .ok (.bl (isNon x)) g
  | .IsNot, x, .non, g => .ok (.bl (!isNon x)) g
  | _, _, _, _ => .bad
def cmpop (op : CmpOp) (x y : D) (g : Gh) : R D := cmpopV op (deref g x) (deref g y) g
def negop : D → Gh → R D
  | .int i, g => .ok (.int (-i)) g
  | _, _ => .bad
/-- the items of xs[lo:hi] -/
def cutD (xs : List D) (lo hi : Option Int) : List D := (xs.drop (HT.sIx xs.length 0 lo)).take (HT.sIx xs.length xs.length hi - HT.sIx xs.length 0 lo)
def subD : D → D → Gh → R D
  | .lst xs, .int i, g => match atI xs i with | some d => .ok d g | none => .bad
  | .tup xs, .int i, g => match atI xs i with | some d => .ok d g | none => .bad
  | .arr ns, .int i, g => match atI ns i with | some n => .ok (.int n) g | none => .bad
  | .str z, .int i, g => if z.length ≤ LIM then (match atI z.cps.toList i with | some c => .ok (.str ⟨#[c]⟩) g | none => .bad) else .bad
  | _, _, _ => .bad
def cutop : D → Option Int → Option Int → Gh → R D
  | .lst xs, lo, hi, g => .ok (.lst (cutD xs lo hi)) g
  | .tup xs, lo, hi, g => .ok (.tup (cutD xs lo hi)) g
  | _, _, _, _ => .bad
def asB {α : Type} (f : Bool → Gh → R α) : D → Gh → R α
  | .bl b, g => f b g
  | _, _ => .bad

/-! ### combinators -/
def eLv (i : Nat) : ME := fun env g => match env[i]? with
  | some (.val d) => .ok d g
  | _ => .bad
def eC (d : D) : ME := fun _ g => .ok d g
noncomputable def eBin (op : Operator) (a b : ME) : ME := fun env g => (a env g).bind fun x g1 => (b env g1).bind fun y g2 => binop op x y g2
def eCmp (op : CmpOp) (a b : ME) : ME := fun env g => (a env g).bind fun x g1 => (b env g1).bind fun y g2 => cmpop op x y g2
/-- a op b op' c -/
def eChain (op op' : CmpOp) (a b c : ME) : ME := fun env g => (a env g).bind fun x g1 => (b env g1).bind fun y g2 => (cmpop op x y g2).bind (asB fun k g3 => if k then (c env g3).bind fun z g4 => cmpop op' y z g4 else .ok (.bl false) g3)
def eNeg (a : ME) : ME := fun env g => (a env g).bind negop
def tV (a : ME) : MT := fun env g => (a env g).bind (asB fun b g1 => .ok b g1)
def tAnd (a b : MT) : MT := fun env g => (a env g).bind fun k g1 => if k then b env g1 else .ok false g1
def tOr (a b : MT) : MT := fun env g => (a env g).bind fun k g1 => if k then .ok true g1 else b env g1
def tNot (a : MT) : MT := fun env g => (a env g).bind fun k g1 => .ok (!k) g1
def eAnd (a b : ME) : ME := fun env g => (a env g).bind (asB fun k g1 => if k then b env g1 else .ok (.bl false) g1)
def eOr (a b : ME) : ME := fun env g => (a env g).bind (asB fun k g1 => if k then .ok (.bl true) g1 else b env g1)
def eNot (a : MT) : ME := fun env g => (a env g).bind fun k g1 => .ok (.bl (!k)) g1
def eIf (c : MT) (a b : ME) : ME := fun env g => (c env g).bind fun k g1 => if k then a env g1 else b env g1
def lNil : ML := fun _ g => .ok [] g
def lCons (a : ME) (r : ML) : ML := fun env g => (a env g).bind fun x g1 => (r env g1).bind fun xs g2 => .ok (x :: xs) g2
def eTup (l : ML) : ME := fun env g => (l env g).bind fun xs g1 => guardR (decide (xs.length ≤ LIM)) (.tup xs) g1
/-- a new list's items -/
def fLst (l : ML) : ML := fun env g => (l env g).bind fun xs g1 => if xs.length ≤ LIM then .ok xs g1 else .bad
def eNew (l : ML) : ME := fun env g => (l env g).bind fun xs g1 => .ok (.lst xs) g1
def eAlloc (l : ML) : ME := fun env g => (l env g).bind fun xs g1 => .ok (.loc g1.length) (g1 ++ [.lst xs])
def eSub (a b : ME) : ME := fun env g => (a env g).bind fun x g1 => (b env g1).bind fun y g2 => subD (deref g2 x) y g2
abbrev MO := Env' → Gh → R (Option Int)
def oNone : MO := fun _ g => .ok none g
def oSome (a : ME) : MO := fun env g => (a env g).bind fun x g1 => match x with | .int i => .ok (some i) g1 | _ => .bad
def eCut (a : ME) (lo hi : MO) : ME := fun env g => (a env g).bind fun x g1 => (lo env g1).bind fun l g2 => (hi env g2).bind fun h g3 => cutop (deref g3 x) l h g3
end GL
/-! GL part 2: how clean values and heaps stand in HandS's abstract heap. -/
namespace GL
open PySem L2

/-- the program's image: the written part, the module's names, the defs and classes by name -/
structure Im where
  K : PySem.W.Frag
  mg : Str → Option Value
  fa : Nat → Option Addr

/-- a world: what never changes (C), where the mutable objects stand (ρ) -/
structure Wd where
  C : Hp
  ρ : List Addr
structure Wd.Le (w w' : Wd) : Prop where
  c : ∀ a o, w.C a = some o → w'.C a = some o
  r : ∀ (n : Nat) (a : Addr), w.ρ[n]? = some a → w'.ρ[n]? = some a
theorem Wd.Le.refl (w : Wd) : w.Le w := ⟨fun _ _ h => h, fun _ _ h => h⟩
theorem Wd.Le.trans {a b c : Wd} (x : a.Le b) (y : b.Le c) : a.Le c := ⟨fun p o h => y.c p o (x.c p o h), fun n p h => y.r n p (x.r n p h)⟩

mutual
inductive DV (M : Im) (w : Wd) : D → V → Prop
  | non : DV M w .non .non
  | bl (b : Bool) : DV M w (.bl b) (.bl b)
  | int (i : Int) : DV M w (.int i) (.int i)
  | str (x : Str) : DV M w (.str x) (.str x)
  | tup {a : Addr} {vs : List V} {xs : List D} : SqT M.K w.C a vs → DVs M w xs vs → DV M w (.tup xs) (.ref a)
  | lst {a : Addr} {vs : List V} {xs : List D} : w.C a = some (.lst vs) → DVs M w xs vs → DV M w (.lst xs) (.ref a)
  | loc {n : Nat} {a : Addr} : w.ρ[n]? = some a → DV M w (.loc n) (.ref a)
  | fn {s : Nat} {a : Addr} : M.fa s = some a → DV M w (.fn s) (.ref a)
  | arr {a : Addr} {ns : List Int} : SqL M.K w.C a (ns.map V.int) → DV M w (.arr ns) (.ref a)
inductive DVs (M : Im) (w : Wd) : List D → List V → Prop
  | nil : DVs M w [] []
  | cons {d : D} {v : V} {ds : List D} {vs : List V} : DV M w d v → DVs M w ds vs → DVs M w (d :: ds) (v :: vs)
end

theorem Rd.mono {C H : Hp} (h : ∀ a o, C a = some o → H a = some o) {a : Addr} {u : HO} (r : Rd C a u) : Rd H a u := by
  rcases r with r | ⟨o, r⟩
  · exact .inl (h _ _ r)
  · exact .inr ⟨o, h _ _ r⟩
theorem SqT.mono {K : PySem.W.Frag} {C H : Hp} (h : ∀ a o, C a = some o → H a = some o) {a : Addr} {xs : List V} (r : SqT K C a xs) : SqT K H a xs := by
  rcases r with r | r
  · exact .inl (Rd.mono h r)
  · exact .inr r
theorem SqL.mono {K : PySem.W.Frag} {C H : Hp} (h : ∀ a o, C a = some o → H a = some o) {a : Addr} {xs : List V} (r : SqL K C a xs) : SqL K H a xs := by
  rcases r with r | r
  · exact .inl (Rd.mono h r)
  · exact .inr r

section
variable {M : Im} {w w' : Wd}
mutual
theorem DV.mono (l : w.Le w') : ∀ (d : D) (v : V), DV M w d v → DV M w' d v
  | .non, _, h => by cases h; exact .non
  | .bl b, _, h => by cases h; exact .bl b
  | .int i, _, h => by cases h; exact .int i
  | .str x, _, h => by cases h; exact .str x
  | .tup xs, _, h => by
    cases h with
    | tup a b => exact .tup (SqT.mono l.c a) (DVs.mono l xs _ b)
  | .lst xs, _, h => by
    cases h with
    | lst a b => exact .lst (l.c _ _ a) (DVs.mono l xs _ b)
  | .loc n, _, h => by
    cases h with
    | loc a => exact .loc (l.r _ _ a)
  | .fn s, _, h => by
    cases h with
    | fn a => exact .fn a
  | .arr ns, _, h => by
    cases h with
    | arr a => exact .arr (SqL.mono l.c a)
theorem DVs.mono (l : w.Le w') : ∀ (ds : List D) (vs : List V), DVs M w ds vs → DVs M w' ds vs
  | [], _, h => by cases h; exact .nil
  | d :: ds, _, h => by
    cases h with
    | cons a b => exact .cons (DV.mono l d _ a) (DVs.mono l ds _ b)
end
theorem DV.up {d : D} {v : V} (h : DV M w d v) (l : w.Le w') : DV M w' d v := DV.mono l d v h
theorem DVs.up {ds : List D} {vs : List V} (h : DVs M w ds vs) (l : w.Le w') : DVs M w' ds vs := DVs.mono l ds vs h
theorem DVs.length : ∀ {ds : List D} {vs : List V}, DVs M w ds vs → ds.length = vs.length
  | _, _, .nil => rfl
  | _, _, .cons _ b => congrArg Nat.succ (DVs.length b)
theorem DVs.append : ∀ {ds es : List D} {vs us : List V}, DVs M w ds vs → DVs M w es us → DVs M w (ds ++ es) (vs ++ us)
  | _, _, _, _, .nil, h => h
  | _, _, _, _, .cons a b, h => .cons a (DVs.append b h)
theorem DVs.get : ∀ {ds : List D} {vs : List V} {i : Nat} {d : D}, DVs M w ds vs → ds[i]? = some d → ∃ v, vs[i]? = some v ∧ DV M w d v
  | _, _, _, _, .nil, h => by simp at h
  | _, _, 0, _, .cons a b, h => by simp at h; subst h; exact ⟨_, rfl, a⟩
  | _, _, i + 1, _, .cons a b, h => by
    obtain ⟨v, h1, h2⟩ := DVs.get (i := i) b (by simpa using h)
    exact ⟨v, by simpa using h1, h2⟩
theorem DVs.getV : ∀ {ds : List D} {vs : List V} {i : Nat} {v : V}, DVs M w ds vs → vs[i]? = some v → ∃ d, ds[i]? = some d ∧ DV M w d v
  | _, _, _, _, .nil, h => by simp at h
  | _, _, 0, _, .cons a b, h => by simp at h; subst h; exact ⟨_, rfl, a⟩
  | _, _, i + 1, _, .cons a b, h => by
    obtain ⟨d, h1, h2⟩ := DVs.getV (i := i) b (by simpa using h)
    exact ⟨d, by simpa using h1, h2⟩
theorem DVs.take : ∀ {ds : List D} {vs : List V} (n : Nat), DVs M w ds vs → DVs M w (ds.take n) (vs.take n)
  | _, _, 0, _ => .nil
  | _, _, _ + 1, .nil => .nil
  | _, _, n + 1, .cons a b => .cons a (DVs.take n b)
theorem DVs.drop : ∀ {ds : List D} {vs : List V} (n : Nat), DVs M w ds vs → DVs M w (ds.drop n) (vs.drop n)
  | _, _, 0, r => r
  | _, _, _ + 1, .nil => .nil
  | _, _, n + 1, .cons _ b => DVs.drop n b
theorem DVs.set {d : D} {v : V} (r : DV M w d v) : ∀ {ds : List D} {vs : List V} (i : Nat), DVs M w ds vs → DVs M w (ds.set i d) (vs.set i v)
  | _, _, _, .nil => .nil
  | _, _, 0, .cons _ b => .cons r b
  | _, _, i + 1, .cons a b => .cons a (DVs.set r i b)
theorem DVs.one {d : D} {v : V} (h : DV M w d v) : DVs M w [d] [v] := .cons h .nil
theorem DVs.ints : ∀ {ns : List Int}, DVs M w (ns.map D.int) (ns.map V.int)
  | [] => .nil
  | n :: ns => .cons (.int n) DVs.ints
end

/-! ### mutable objects -/
inductive FV (M : Im) (w : Wd) : List (Str × D) → List (Str × V) → Prop
  | nil : FV M w [] []
  | cons {f : Str} {d : D} {v : V} {ds : List (Str × D)} {vs : List (Str × V)} : DV M w d v → FV M w ds vs → FV M w ((f, d) :: ds) ((f, v) :: vs)
inductive OR (M : Im) (w : Wd) : O → HO → Prop
  | lst {xs : List D} {vs : List V} : DVs M w xs vs → OR M w (.lst xs) (.lst vs)
  | ins {c : Nat} {Ca dx : Addr} {fs : List (Str × D)} {vs : List (Str × V)} : M.fa c = some Ca → FV M w fs vs → OR M w (.ins c fs) (.ins Ca dx vs)
theorem FV.up {M : Im} {w w' : Wd} (l : w.Le w') : ∀ {ds : List (Str × D)} {vs : List (Str × V)}, FV M w ds vs → FV M w' ds vs
  | _, _, .nil => .nil
  | _, _, .cons a b => .cons (a.up l) (FV.up l b)
theorem OR.up {M : Im} {w w' : Wd} (l : w.Le w') {o : O} {h : HO} (x : OR M w o h) : OR M w' o h := by
  cases x with
  | lst a => exact .lst (a.up l)
  | ins a b => exact .ins a (b.up l)

/-- the clean heap G, and what a frame keeps to itself (fr), stand in H -/
structure RG (M : Im) (w : Wd) (fr : List (Addr × HO)) (G : Gh) (H : Hp) : Prop where
  cold : ∀ a o, w.C a = some o → H a = some o
  len : w.ρ.length = G.length
  obj : ∀ (n : Nat) (o : O) (a : Addr), G[n]? = some o → w.ρ[n]? = some a → ∃ ho, H a = some ho ∧ OR M w o ho
  frm : ∀ p ∈ fr, H p.1 = some p.2
  nd : (w.ρ ++ fr.map (·.1)).Nodup
  hot : ∀ a ∈ w.ρ ++ fr.map (·.1), w.C a = none

theorem RG.there {M : Im} {w : Wd} {fr : List (Addr × HO)} {G : Gh} {H : Hp} (r : RG M w fr G H) {a : Addr} (h : a ∈ w.ρ ++ fr.map (·.1)) : ∃ o, H a = some o := by
  rcases List.mem_append.mp h with h | h
  · obtain ⟨n, hn, e⟩ := List.getElem_of_mem h
    have hg : n < G.length := by rw [← r.len]; exact hn
    obtain ⟨ho, h1, _⟩ := r.obj n G[n] a (by simp [hg]) (by rw [List.getElem?_eq_getElem hn, e])
    exact ⟨ho, h1⟩
  · obtain ⟨p, hp, rfl⟩ := List.mem_map.mp h
    exact ⟨_, r.frm p hp⟩
theorem RG.fresh {M : Im} {w : Wd} {fr : List (Addr × HO)} {G : Gh} {H : Hp} (r : RG M w fr G H) {p : Addr} (h : H p = none) : w.C p = none ∧ p ∉ w.ρ ++ fr.map (·.1) := by
  refine ⟨?_, fun hm => ?_⟩
  · cases e : w.C p with
    | none => rfl
    | some o => rw [r.cold p o e] at h; cases h
  · obtain ⟨o, e⟩ := r.there hm
    rw [e] at h; cases h
/-- a new thing that never changes -/
theorem RG.newCold {M : Im} {w : Wd} {fr : List (Addr × HO)} {G : Gh} {H : Hp} (r : RG M w fr G H) {p : Addr} {o : HO} (h : H p = none) :
    w.Le ⟨upd w.C p o, w.ρ⟩ ∧ RG M ⟨upd w.C p o, w.ρ⟩ fr G (upd H p o) := by
  obtain ⟨h1, h2⟩ := r.fresh h
  have l : w.Le ⟨upd w.C p o, w.ρ⟩ := ⟨fun a u e => by show upd w.C p o a = some u; rw [upd_ne (ne_of_none e h1)]; exact e, fun _ _ e => e⟩
  refine ⟨l, fun a u e => ?_, r.len, fun n ob a e1 e2 => ?_, fun q hq => ?_, r.nd, fun a ha => ?_⟩
  · have e : upd w.C p o a = some u := e
    by_cases ha : a = p
    · subst ha; rw [upd_same] at e ⊢; exact e
    · rw [upd_ne ha] at e ⊢; exact r.cold a u e
  · obtain ⟨ho, q1, q2⟩ := r.obj n ob a e1 e2
    exact ⟨ho, by rw [upd_ne (ne_of_none q1 h)]; exact q1, q2.up l⟩
  · rw [upd_ne (ne_of_none (r.frm q hq) h)]; exact r.frm q hq
  · show upd w.C p o a = none
    rw [upd_ne (fun e => h2 (by subst e; exact ha))]; exact r.hot a ha
/-- a new mutable object -/
theorem RG.newHot {M : Im} {w : Wd} {fr : List (Addr × HO)} {G : Gh} {H : Hp} (r : RG M w fr G H) {p : Addr} {o : O} {ho : HO} (h : H p = none) (q : OR M ⟨w.C, w.ρ ++ [p]⟩ o ho) :
    w.Le ⟨w.C, w.ρ ++ [p]⟩ ∧ RG M ⟨w.C, w.ρ ++ [p]⟩ fr (G ++ [o]) (upd H p ho) := by
  obtain ⟨h1, h2⟩ := r.fresh h
  have l : w.Le ⟨w.C, w.ρ ++ [p]⟩ := ⟨fun a u e => e, fun n a e => by
    have hn : n < w.ρ.length := (List.getElem?_eq_some_iff.mp e).1
    show (w.ρ ++ [p])[n]? = some a
    rw [List.getElem?_append_left hn]; exact e⟩
  refine ⟨l, fun a u e => ?_, by simp [r.len], fun n ob a e1 e2 => ?_, fun q hq => ?_, ?_, fun a ha => ?_⟩
  · rw [upd_ne (ne_of_none (r.cold a u e) h)]; exact r.cold a u e
  · have e2 : (w.ρ ++ [p])[n]? = some a := e2
    by_cases hn : n < G.length
    · rw [List.getElem?_append_left hn] at e1
      rw [List.getElem?_append_left (by rw [r.len]; exact hn)] at e2
      obtain ⟨u, q1, q2⟩ := r.obj n ob a e1 e2
      exact ⟨u, by rw [upd_ne (ne_of_none q1 h)]; exact q1, q2.up l⟩
    · have hn' : n = G.length := by
        have := (List.getElem?_eq_some_iff.mp e1).1
        simp at this; omega
      subst hn'
      rw [List.getElem?_append_right (Nat.le_refl _)] at e1
      rw [List.getElem?_append_right (by rw [r.len]; exact Nat.le_refl _), r.len] at e2
      simp at e1 e2
      subst e1 e2
      exact ⟨ho, upd_same, q⟩
  · rw [upd_ne (ne_of_none (r.frm q hq) h)]; exact r.frm q hq
  · show ((w.ρ ++ [p]) ++ fr.map (·.1)).Nodup
    rw [List.append_assoc, List.singleton_append]
    exact (List.perm_middle.nodup_iff).mpr (List.nodup_cons.mpr ⟨h2, r.nd⟩)
  · have ha : a ∈ (w.ρ ++ [p]) ++ fr.map (·.1) := ha
    rw [List.append_assoc, List.singleton_append, List.perm_middle.mem_iff, List.mem_cons] at ha
    rcases ha with rfl | ha
    · exact h1
    · exact r.hot a ha
/-- a mutable object changes -/
theorem RG.set {M : Im} {w : Wd} {fr : List (Addr × HO)} {G : Gh} {H : Hp} (r : RG M w fr G H) {n : Nat} {a : Addr} {o : O} {ho : HO} (hn : w.ρ[n]? = some a) (q : OR M w o ho) : RG M w fr (G.set n o) (upd H a ho) := by
  have hm : a ∈ w.ρ ++ fr.map (·.1) := List.mem_append_left _ (List.mem_of_getElem? hn)
  have hc := r.hot a hm
  refine ⟨fun b u e => ?_, by simp [r.len], fun m ob b e1 e2 => ?_, fun p hp => ?_, r.nd, r.hot⟩
  · rw [upd_ne (ne_of_none e hc)]; exact r.cold b u e
  · by_cases hmn : m = n
    · subst hmn
      have hl : m < G.length := by have := (List.getElem?_eq_some_iff.mp e1).1; simpa using this
      rw [List.getElem?_set_self hl] at e1
      cases e1
      rw [hn] at e2; cases e2
      exact ⟨ho, upd_same, q⟩
    · rw [List.getElem?_set_ne (Ne.symm hmn)] at e1
      obtain ⟨u, q1, q2⟩ := r.obj m ob b e1 e2
      refine ⟨u, ?_, q2⟩
      rw [upd_ne]; exact q1
      rintro rfl
      obtain ⟨l1, x1⟩ := List.getElem?_eq_some_iff.mp e2
      obtain ⟨l2, x2⟩ := List.getElem?_eq_some_iff.mp hn
      exact hmn ((List.getElem_inj (List.nodup_append.mp r.nd).1).mp (x1.trans x2.symm))
  · have hne : p.1 ≠ a := fun e => by
      have := (List.nodup_append.mp r.nd).2.2 a (List.mem_of_getElem? hn) p.1 (List.mem_map.mpr ⟨p, hp, rfl⟩)
      exact this e.symm
    rw [upd_ne hne]; exact r.frm p hp
/-- a frame's own object changes -/
theorem RG.setFr {M : Im} {w : Wd} {f1 f2 : List (Addr × HO)} {a : Addr} {o o' : HO} {G : Gh} {H : Hp} (r : RG M w (f1 ++ (a, o) :: f2) G H) : RG M w (f1 ++ (a, o') :: f2) G (upd H a o') := by
  have em : ∀ x : HO, (f1 ++ (a, x) :: f2).map (·.1) = f1.map (·.1) ++ a :: f2.map (·.1) := fun x => by simp
  have hm : a ∈ w.ρ ++ (f1 ++ (a, o) :: f2).map (·.1) := by simp
  have hc := r.hot a hm
  have nd := r.nd
  rw [em] at nd
  have na := (List.nodup_append.mp nd).2.2
  have nf := (List.nodup_append.mp nd).2.1
  have nfm : a ∉ f1.map (·.1) ++ f2.map (·.1) := by
    have := ((List.perm_middle (a := a) (l₁ := f1.map Prod.fst) (l₂ := f2.map Prod.fst)).nodup_iff).mp nf
    exact (List.nodup_cons.mp this).1
  refine ⟨fun b u e => ?_, r.len, fun m ob b e1 e2 => ?_, fun p hp => ?_, by rw [em]; exact nd, fun b hb => r.hot b (by rw [em] at hb ⊢; exact hb)⟩
  · rw [upd_ne (ne_of_none e hc)]; exact r.cold b u e
  · obtain ⟨u, q1, q2⟩ := r.obj m ob b e1 e2
    refine ⟨u, ?_, q2⟩
    rw [upd_ne]; exact q1
    exact na b (List.mem_of_getElem? e2) a (by simp)
  · rcases List.mem_append.mp hp with hp | hp
    · have hne : p.1 ≠ a := fun e => nfm (List.mem_append_left _ (List.mem_map.mpr ⟨p, hp, e⟩))
      rw [upd_ne hne]; exact r.frm p (List.mem_append_left _ hp)
    · rcases List.mem_cons.mp hp with rfl | hp
      · exact upd_same
      · have hne : p.1 ≠ a := fun e => nfm (List.mem_append_right _ (List.mem_map.mpr ⟨p, hp, e⟩))
        rw [upd_ne hne]; exact r.frm p (List.mem_append_right _ (List.mem_cons_of_mem _ hp))
/-- fewer things kept -/
theorem RG.less {M : Im} {w : Wd} {f f' : List (Addr × HO)} {G : Gh} {H : Hp} (r : RG M w f G H) (h : f'.Sublist f) : RG M w f' G H := by
  have hs : (w.ρ ++ f'.map (·.1)).Sublist (w.ρ ++ f.map (·.1)) := (List.Sublist.refl _).append (h.map _)
  exact ⟨r.cold, r.len, r.obj, fun p hp => r.frm p (h.subset hp), r.nd.sublist hs, fun a ha => r.hot a (hs.subset ha)⟩
theorem RG.perm {M : Im} {w : Wd} {f f' : List (Addr × HO)} {G : Gh} {H : Hp} (r : RG M w f G H) (h : f.Perm f') : RG M w f' G H := by
  have hs : (w.ρ ++ f.map (·.1)).Perm (w.ρ ++ f'.map (·.1)) := (h.map _).append_left _
  exact ⟨r.cold, r.len, r.obj, fun p hp => r.frm p (h.mem_iff.mpr hp), hs.nodup_iff.mp r.nd, fun a ha => r.hot a (hs.mem_iff.mpr ha)⟩
/-- a new thing that the frame keeps to itself -/
theorem RG.newFr {M : Im} {w : Wd} {fr : List (Addr × HO)} {G : Gh} {H : Hp} (r : RG M w fr G H) {p : Addr} {o : HO} (h : H p = none) : RG M w ((p, o) :: fr) G (upd H p o) := by
  obtain ⟨h1, h2⟩ := r.fresh h
  refine ⟨fun a u e => by rw [upd_ne (ne_of_none (r.cold a u e) h)]; exact r.cold a u e, r.len, fun m ob b e1 e2 => ?_, fun q hq => ?_, ?_, fun a ha => ?_⟩
  · obtain ⟨u, q1, q2⟩ := r.obj m ob b e1 e2
    exact ⟨u, by rw [upd_ne (ne_of_none q1 h)]; exact q1, q2⟩
  · rcases List.mem_cons.mp hq with rfl | hq
    · exact upd_same
    · rw [upd_ne (ne_of_none (r.frm q hq) h)]; exact r.frm q hq
  · show (w.ρ ++ p :: fr.map (·.1)).Nodup
    exact (List.perm_middle.nodup_iff).mpr (List.nodup_cons.mpr ⟨h2, r.nd⟩)
  · have ha : a ∈ w.ρ ++ p :: fr.map (·.1) := ha
    rw [List.perm_middle.mem_iff, List.mem_cons] at ha
    rcases ha with rfl | ha
    · exact h1
    · exact r.hot a ha
/-- what the frame kept to itself never changes from now on -/
theorem RG.freeze {M : Im} {w : Wd} {a : Addr} {o : HO} {fr : List (Addr × HO)} {G : Gh} {H : Hp} (r : RG M w ((a, o) :: fr) G H) : w.Le ⟨upd w.C a o, w.ρ⟩ ∧ RG M ⟨upd w.C a o, w.ρ⟩ fr G H := by
  have hc : w.C a = none := r.hot a (by simp)
  have l : w.Le ⟨upd w.C a o, w.ρ⟩ := ⟨fun b u e => by show upd w.C a o b = some u; rw [upd_ne (ne_of_none e hc)]; exact e, fun _ _ e => e⟩
  have nd : (w.ρ ++ a :: fr.map (·.1)).Nodup := r.nd
  have nd' := List.nodup_cons.mp ((List.perm_middle.nodup_iff).mp nd)
  refine ⟨l, fun b u e => ?_, r.len, fun n ob b e1 e2 => ?_, fun p hp => r.frm p (List.mem_cons_of_mem _ hp), nd'.2, fun b hb => ?_⟩
  · have e : upd w.C a o b = some u := e
    by_cases hb : b = a
    · subst hb; rw [upd_same] at e; cases e; exact r.frm (b, o) List.mem_cons_self
    · rw [upd_ne hb] at e; exact r.cold b u e
  · obtain ⟨u, q1, q2⟩ := r.obj n ob b e1 e2
    exact ⟨u, q1, q2.up l⟩
  · show upd w.C a o b = none
    rw [upd_ne (fun e => nd'.1 (by subst e; exact hb))]
    exact r.hot b (by
      show b ∈ w.ρ ++ a :: fr.map (·.1)
      exact (List.perm_middle.mem_iff).mpr (List.mem_cons_of_mem _ hb))

/-! ### slots -/
inductive SlR (M : Im) (w : Wd) : List (Addr × HO) → Env' → L2.St → Prop
  | nil : SlR M w [] [] []
  | un {os : List (Addr × HO)} {env : Env'} {σ : L2.St} {o : Option V} : SlR M w os env σ → SlR M w os (.un :: env) (o :: σ)
  | val {os : List (Addr × HO)} {env : Env'} {σ : L2.St} {d : D} {v : V} : DV M w d v → SlR M w os env σ → SlR M w os (.val d :: env) (some v :: σ)
  | own {os : List (Addr × HO)} {env : Env'} {σ : L2.St} {xs : List D} {vs : List V} {a : Addr} : DVs M w xs vs → SlR M w os env σ → SlR M w ((a, .lst vs) :: os) (.own xs :: env) (some (.ref a) :: σ)
section
variable {M : Im} {w w' : Wd}
theorem SlR.up (l : w.Le w') : ∀ {os : List (Addr × HO)} {env : Env'} {σ : L2.St}, SlR M w os env σ → SlR M w' os env σ
  | _, _, _, .nil => .nil
  | _, _, _, .un b => .un (SlR.up l b)
  | _, _, _, .val a b => .val (a.up l) (SlR.up l b)
  | _, _, _, .own a b => .own (a.up l) (SlR.up l b)
theorem SlR.length : ∀ {os : List (Addr × HO)} {env : Env'} {σ : L2.St}, SlR M w os env σ → env.length = σ.length
  | _, _, _, .nil => rfl
  | _, _, _, .un b => congrArg Nat.succ (SlR.length b)
  | _, _, _, .val a b => congrArg Nat.succ (SlR.length b)
  | _, _, _, .own a b => congrArg Nat.succ (SlR.length b)
theorem SlR.get : ∀ {os : List (Addr × HO)} {env : Env'} {σ : L2.St} {i : Nat} {d : D}, SlR M w os env σ → env[i]? = some (.val d) → ∃ v, σ[i]? = some (some v) ∧ DV M w d v
  | _, _, _, _, _, .nil, h => by simp at h
  | _, _, _, 0, _, .un b, h => by simp at h
  | _, _, _, 0, _, .val a b, h => by simp at h; subst h; exact ⟨_, rfl, a⟩
  | _, _, _, 0, _, .own a b, h => by simp at h
  | _, _, _, i + 1, _, .un b, h => by simpa using SlR.get (i := i) b (by simpa using h)
  | _, _, _, i + 1, _, .val a b, h => by simpa using SlR.get (i := i) b (by simpa using h)
  | _, _, _, i + 1, _, .own a b, h => by simpa using SlR.get (i := i) b (by simpa using h)
/-- the slot i becomes a value -/
theorem SlR.set {d : D} {v : V} (r : DV M w d v) : ∀ {os : List (Addr × HO)} {env : Env'} {σ : L2.St} (i : Nat), SlR M w os env σ → ∃ os', os'.Sublist os ∧ SlR M w os' (env.set i (.val d)) (σ.set i (some v))
  | _, _, _, _, .nil => ⟨[], .slnil, .nil⟩
  | _, _, _, 0, .un b => ⟨_, .refl _, .val r b⟩
  | _, _, _, 0, .val _ b => ⟨_, .refl _, .val r b⟩
  | _, _, _, 0, .own _ b => ⟨_, List.sublist_cons_self _ _, .val r b⟩
  | _, _, _, i + 1, .un b => let ⟨os', h1, h2⟩ := SlR.set r i b; ⟨os', h1, .un h2⟩
  | _, _, _, i + 1, .val a b => let ⟨os', h1, h2⟩ := SlR.set r i b; ⟨os', h1, .val a h2⟩
  | _, _, _, i + 1, .own a b => let ⟨os', h1, h2⟩ := SlR.set r i b; ⟨_, h1.cons_cons _, .own a h2⟩
/-- the slot i is forgotten -/
theorem SlR.wipe1 {o : Option V} : ∀ {os : List (Addr × HO)} {env : Env'} {σ : L2.St} (i : Nat), SlR M w os env σ → ∃ os', os'.Sublist os ∧ SlR M w os' (env.set i .un) (σ.set i o)
  | _, _, _, _, .nil => ⟨[], .slnil, .nil⟩
  | _, _, _, 0, .un b => ⟨_, .refl _, .un b⟩
  | _, _, _, 0, .val _ b => ⟨_, .refl _, .un b⟩
  | _, _, _, 0, .own _ b => ⟨_, List.sublist_cons_self _ _, .un b⟩
  | _, _, _, i + 1, .un b => let ⟨os', h1, h2⟩ := SlR.wipe1 i b; ⟨os', h1, .un h2⟩
  | _, _, _, i + 1, .val a b => let ⟨os', h1, h2⟩ := SlR.wipe1 i b; ⟨os', h1, .val a h2⟩
  | _, _, _, i + 1, .own a b => let ⟨os', h1, h2⟩ := SlR.wipe1 i b; ⟨_, h1.cons_cons _, .own a h2⟩
/-- the slot i becomes a list of the frame's own, at a -/
theorem SlR.setOwn {xs : List D} {vs : List V} {a : Addr} (r : DVs M w xs vs) : ∀ {os : List (Addr × HO)} {env : Env'} {σ : L2.St} (i : Nat), i < env.length → SlR M w os env σ →
    ∃ os' os'', os'.Sublist os ∧ ((a, HO.lst vs) :: os').Perm os'' ∧ SlR M w os'' (env.set i (.own xs)) (σ.set i (some (.ref a)))
  | _, _, _, _, hi, .nil => by simp at hi
  | _, _, _, 0, _, .un b => ⟨_, _, .refl _, .refl _, .own r b⟩
  | _, _, _, 0, _, .val _ b => ⟨_, _, .refl _, .refl _, .own r b⟩
  | _, _, _, 0, _, .own _ b => ⟨_, _, List.sublist_cons_self _ _, .refl _, .own r b⟩
  | _, _, _, i + 1, hi, .un b => let ⟨o1, o2, h1, h2, h3⟩ := SlR.setOwn r i (by simpa using hi) b; ⟨o1, o2, h1, h2, .un h3⟩
  | _, _, _, i + 1, hi, .val a b => let ⟨o1, o2, h1, h2, h3⟩ := SlR.setOwn r i (by simpa using hi) b; ⟨o1, o2, h1, h2, .val a h3⟩
  | _, _, _, i + 1, hi, .own a b => let ⟨o1, o2, h1, h2, h3⟩ := SlR.setOwn r i (by simpa using hi) b; ⟨_ :: o1, _ :: o2, h1.cons_cons _, (List.Perm.swap ..).trans (h2.cons _), .own a h3⟩
/-- the own list in slot i: where it stands, and that it may change -/
theorem SlR.getOwn : ∀ {os : List (Addr × HO)} {env : Env'} {σ : L2.St} {i : Nat} {xs : List D}, SlR M w os env σ → env[i]? = some (.own xs) →
    ∃ a vs f1 f2, os = f1 ++ (a, .lst vs) :: f2 ∧ σ[i]? = some (some (.ref a)) ∧ DVs M w xs vs ∧ (∀ ys us, DVs M w ys us → SlR M w (f1 ++ (a, .lst us) :: f2) (env.set i (.own ys)) σ) ∧
      (∀ w' d, w.Le w' → DV M w' d (.ref a) → SlR M w' (f1 ++ f2) (env.set i (.val d)) σ)
  | _, _, _, _, _, .nil, h => by simp at h
  | _, _, _, 0, _, .un b, h => by simp at h
  | _, _, _, 0, _, .val a b, h => by simp at h
  | _, _, _, 0, _, .own a b, h => by
    simp at h; subst h
    exact ⟨_, _, [], _, rfl, rfl, a, fun ys us r => .own r b, fun w' d l r => .val r (b.up l)⟩
  | _, _, _, i + 1, _, .un b, h => by
    obtain ⟨a, vs, f1, f2, e, h1, h2, h3, h4⟩ := SlR.getOwn (i := i) b (by simpa using h)
    exact ⟨a, vs, f1, f2, e, by simpa using h1, h2, fun ys us r => .un (h3 ys us r), fun w' d l r => .un (h4 w' d l r)⟩
  | _, _, _, i + 1, _, .val c b, h => by
    obtain ⟨a, vs, f1, f2, e, h1, h2, h3, h4⟩ := SlR.getOwn (i := i) b (by simpa using h)
    exact ⟨a, vs, f1, f2, e, by simpa using h1, h2, fun ys us r => .val c (h3 ys us r), fun w' d l r => .val (c.up l) (h4 w' d l r)⟩
  | _, _, _, i + 1, _, .own c b, h => by
    obtain ⟨a, vs, f1, f2, e, h1, h2, h3, h4⟩ := SlR.getOwn (i := i) b (by simpa using h)
    exact ⟨a, vs, _ :: f1, f2, by rw [e]; rfl, by simpa using h1, h2, fun ys us r => .own c (h3 ys us r), fun w' d l r => .own (c.up l) (h4 w' d l r)⟩
end

/-- the whole state of a frame -/
def RS (M : Im) (w : Wd) (fr : List (Addr × HO)) (env : Env') (G : Gh) (σ : L2.St) (H : Hp) : Prop := ∃ os, RG M w (os ++ fr) G H ∧ SlR M w os env σ
section
variable {M : Im} {w w' : Wd} {fr : List (Addr × HO)} {env : Env'} {G G' : Gh} {σ : L2.St} {H H' : Hp}
theorem RS.cold (r : RS M w fr env G σ H) : ∀ a o, w.C a = some o → H a = some o := let ⟨_, h, _⟩ := r; h.cold
theorem RS.get {i : Nat} {d : D} (r : RS M w fr env G σ H) (h : env[i]? = some (.val d)) : ∃ v, σ[i]? = some (some v) ∧ DV M w d v := let ⟨_, _, s⟩ := r; s.get h
theorem RS.newCold {p : Addr} {o : HO} (r : RS M w fr env G σ H) (h : H p = none) : w.Le ⟨upd w.C p o, w.ρ⟩ ∧ RS M ⟨upd w.C p o, w.ρ⟩ fr env G σ (upd H p o) := by
  obtain ⟨os, g, s⟩ := r
  obtain ⟨l, g'⟩ := g.newCold (o := o) h
  exact ⟨l, os, g', s.up l⟩
theorem RS.newHot {p : Addr} {o : O} {ho : HO} (r : RS M w fr env G σ H) (h : H p = none) (q : OR M ⟨w.C, w.ρ ++ [p]⟩ o ho) : w.Le ⟨w.C, w.ρ ++ [p]⟩ ∧ RS M ⟨w.C, w.ρ ++ [p]⟩ fr env (G ++ [o]) σ (upd H p ho) := by
  obtain ⟨os, g, s⟩ := r
  obtain ⟨l, g'⟩ := g.newHot h q
  exact ⟨l, os, g', s.up l⟩
theorem RS.obj {n : Nat} {o : O} (r : RS M w fr env G σ H) (h : G[n]? = some o) : ∃ a ho, w.ρ[n]? = some a ∧ H a = some ho ∧ OR M w o ho := by
  obtain ⟨os, g, s⟩ := r
  have hn : n < w.ρ.length := by rw [g.len]; exact (List.getElem?_eq_some_iff.mp h).1
  obtain ⟨ho, h1, h2⟩ := g.obj n o _ h (List.getElem?_eq_getElem hn)
  exact ⟨_, ho, List.getElem?_eq_getElem hn, h1, h2⟩
theorem RS.setObj {n : Nat} {a : Addr} {o : O} {ho : HO} (r : RS M w fr env G σ H) (hn : w.ρ[n]? = some a) (q : OR M w o ho) : RS M w fr env (G.set n o) σ (upd H a ho) := by
  obtain ⟨os, g, s⟩ := r
  exact ⟨os, g.set hn q, s⟩
theorem RS.setVal {d : D} {v : V} (i : Nat) (r : RS M w fr env G σ H) (q : DV M w d v) : RS M w fr (env.set i (.val d)) G (σ.set i (some v)) H := by
  obtain ⟨os, g, s⟩ := r
  obtain ⟨os', h1, h2⟩ := s.set q i
  exact ⟨os', g.less (h1.append (.refl _)), h2⟩
theorem RS.len (r : RS M w fr env G σ H) : env.length = σ.length := let ⟨_, _, s⟩ := r; s.length
end
end GL
/-! GL part 3: judgements; names, constants, operators, comparisons, tests, displays, subscripts. -/
namespace GL
open PySem L2

/-- a context in which clean readings are told -/
structure GX (M : Im) (k : Nat) (X : Cx) : Prop where
  K : X.K = M.K
  mg : X.mg = M.mg
  calm : X.calm = true
  nd : X.N.Nodup
  room : Room k X.A
  gd : X.A.guards = some []
theorem GX.u64 {M : Im} {k : Nat} {X : Cx} (g : GX M k X) : X.A.units + 64 < cLine := g.room.units
theorem GX.u65 {M : Im} {k : Nat} {X : Cx} (g : GX M k X) : X.A.units + 65 < cLine := by have := g.room.un; omega

/-- what is wanted of an exception -/
abbrev XW := Xv → Wd → Gh → Hp → Prop
def Post {α : Type} (M : Im) (W : XW) (fr : List (Addr × HO)) (env : Env') (σ : L2.St) (w : Wd) (P : α → Wd → Gh → Hp → Prop) : R α → Prop
  | .ok a G' => ∀ w' H', w.Le w' → RS M w' fr env G' σ H' → P a w' G' H'
  | .exc x G' => ∀ w' H', w.Le w' → RG M w' fr G' H' → W x w' G' H'
  | .bad => False
section
variable {M : Im} {W : XW} {fr : List (Addr × HO)} {env : Env'} {σ : L2.St} {w w1 : Wd}
theorem Post.up {α : Type} {P : α → Wd → Gh → Hp → Prop} {r : R α} (h : Post M W fr env σ w P r) (l : w.Le w1) : Post M W fr env σ w1 P r := by
  cases r with
  | ok a G => exact fun w' H' l' r' => h w' H' (l.trans l') r'
  | exc x G => exact fun w' H' l' r' => h w' H' (l.trans l') r'
  | bad => exact h
theorem Post.bind {α β : Type} {P : β → Wd → Gh → Hp → Prop} {r : R α} {f : α → Gh → R β} (h : Post M W fr env σ w P (r.bind f)) : Post M W fr env σ w (fun a w1 G1 H1 => Post M W fr env σ w1 P (f a G1)) r := by
  cases r with
  | ok a G => exact fun w' H' l' r' => Post.up h l'
  | exc x G => exact h
  | bad => exact h
theorem Post.imp {α : Type} {P P' : α → Wd → Gh → Hp → Prop} {r : R α} (h : Post M W fr env σ w P r) (k : ∀ a w' G' H', w.Le w' → RS M w' fr env G' σ H' → P a w' G' H' → P' a w' G' H') : Post M W fr env σ w P' r := by
  cases r with
  | ok a G => exact fun w' H' l' r' => k a w' G H' l' r' (h w' H' l' r')
  | exc x G => exact h
  | bad => exact h
theorem Post.here {α : Type} {P : α → Wd → Gh → Hp → Prop} {a : α} {G : Gh} {H : Hp} (h : Post M W fr env σ w P (.ok a G)) (r : RS M w fr env G σ H) : P a w G H := h w H (Wd.Le.refl w) r
end
abbrev PE' (M : Im) (Q : VK) : D → Wd → Gh → Hp → Prop := fun d w' _ H' => ∀ v, DV M w' d v → Q v H'
abbrev PT' (Q : Bool → Hp → Prop) : Bool → Wd → Gh → Hp → Prop := fun b _ _ H' => Q b H'
abbrev PL' (M : Im) (Q : List V → Hp → Prop) : List D → Wd → Gh → Hp → Prop := fun ds w' _ H' => ∀ vs, DVs M w' ds vs → Q vs H'

/-- an expression, a test, an argument list and their clean meanings -/
def SE (M : Im) (W : XW) (X : Cx) (e : Expr) (m : ME) : Prop := ∃ t, PE X e t ∧ ∀ w fr env G σ H Q, RS M w fr env G σ H → Post M W fr env σ w (PE' M Q) (m env G) → t σ H Q
def ST (M : Im) (W : XW) (X : Cx) (e : Expr) (m : MT) : Prop := ∃ t, PT X e t ∧ ∀ w fr env G σ H Q, RS M w fr env G σ H → Post M W fr env σ w (PT' Q) (m env G) → t σ H Q
def SW (M : Im) (W : XW) (X : Cx) (e : Expr) (m : MT) : Prop := ∃ t, PW X e t ∧ ∀ w fr env G σ H Q, RS M w fr env G σ H → Post M W fr env σ w (PT' Q) (m env G) → t σ H Q
def SA (M : Im) (W : XW) (X : Cx) (es : List Expr) (m : ML) : Prop := ∃ t, PA X es t ∧ ∀ w fr env G σ H Q, RS M w fr env G σ H → Post M W fr env σ w (PL' M Q) (m env G) → t σ H Q
/-- an expression that hands out a new list -/
def SF (M : Im) (W : XW) (X : Cx) (e : Expr) (m : ML) : Prop := ∃ t, PE X e t ∧ ∀ w fr env G σ H Q, RS M w fr env G σ H →
  Post M W fr env σ w (fun ds w' _ H' => ∀ vs p, DVs M w' ds vs → vs.length ≤ sizeLine → H' p = none → Q (.ref p) (upd H' p (.lst vs))) (m env G) → t σ H Q
theorem SW.st {M : Im} {W : XW} {X : Cx} {e : Expr} {m : MT} (h : SW M W X e m) : ST M W X e m := let ⟨t, h1, h2⟩ := h; ⟨t, h1.pt, h2⟩

section
variable {M : Im} {W : XW} {X : Cx} {k : Nat} {a b c : Expr} {ma mb mc : ME} {pos : Pos}

/-! ### names, constants -/
theorem se_lv {i : Nat} {x : Str} (hN : X.N[i]? = some x) (hv : Vis X.env.scope x) (hd : (x == ("__debug__" : Str)) = false) (hcd : (x == ("__classdict__" : Str)) = false) : SE M W X (.Name x pos) (eLv i) := by
  refine ⟨_, pe_var hN hv hd hcd, fun w fr env G σ H Q r h => ?_⟩
  unfold eLv at h
  cases e : env[i]? with
  | none => rw [e] at h; exact h.elim
  | some s =>
    rw [e] at h
    cases s with
    | un => exact h.elim
    | own xs => exact h.elim
    | val d =>
      obtain ⟨v, h1, h2⟩ := r.get e
      exact ⟨v, h1, Post.here h r v h2⟩
theorem se_c {d : D} {v : V} {e : Expr} (hp : PE X e (fun _ H Q => Q v H)) (hd : ∀ w, DV M w d v) : SE M W X e (eC d) :=
  ⟨_, hp, fun w fr env G σ H Q r h => Post.here h r v (hd w)⟩
theorem se_int {i : Int} {j : Nat} : SE M W X (.Constant (.int i) j pos) (eC (.int i)) := se_c pe_int fun _ => .int i
theorem se_str {x : Str} {j : Nat} : SE M W X (.Constant (.str x) j pos) (eC (.str x)) := se_c pe_str fun _ => .str x
theorem se_bl {x : Bool} {j : Nat} : SE M W X (.Constant (.bool x) j pos) (eC (.bl x)) := se_c pe_bl fun _ => .bl x
theorem se_non {j : Nat} : SE M W X (.Constant .none j pos) (eC .non) := se_c pe_non fun _ => .non
theorem se_glob {x : Str} {d : D} {v : V} {u : Value} (g : GX M k X) (hg : Gl X x) (hm : M.mg x = some u) (r : RelV v u) (hv : ∀ w, DV M w d v) (hd : (x == ("__debug__" : Str)) = false) : SE M W X (.Name x pos) (eC d) :=
  se_c (pe_glob hg (by rw [g.mg]; exact hm) r hd) hv

/-! ### data as the library has it -/
section
variable {w : Wd} {H : Hp}
mutual
theorem DV.dp (hc : ∀ a o, w.C a = some o → H a = some o) : ∀ (d : D) (v : V) (n : Nat), DV M w d v → okD d n = true → Dp M.K H v (toP d)
  | .non, _, _, h, _ => by cases h; exact .non
  | .bl b, _, _, h, _ => by cases h; exact .bl b
  | .int i, _, _, h, _ => by cases h; exact .int i
  | .str x, _, _, h, _ => by cases h; exact .str x
  | .tup xs, _, 0, h, o => by simp [okD] at o
  | .lst xs, _, 0, h, o => by simp [okD] at o
  | .tup xs, _, n + 1, h, o => by
    cases h with
    | tup h1 h2 => exact .tup (SqT.mono hc h1) (DVs.dp hc xs _ n h2 (by simpa [okD] using o))
  | .lst xs, _, n + 1, h, o => by
    cases h with
    | lst h1 h2 => exact .lst (.inl (.inl (hc _ _ h1))) (DVs.dp hc xs _ n h2 (by simpa [okD] using o))
  | .loc _, _, _, _, o => by simp [okD] at o
  | .fn _, _, _, _, o => by simp [okD] at o
  | .arr _, _, _, _, o => by simp [okD] at o
theorem DVs.dp (hc : ∀ a o, w.C a = some o → H a = some o) : ∀ (ds : List D) (vs : List V) (n : Nat), DVs M w ds vs → okDs ds n = true → DpAll M.K H vs (toPs ds)
  | [], _, _, h, _ => by cases h; exact .nil
  | d :: ds, _, n, h, o => by
    cases h with
    | cons h1 h2 =>
      have o' : okD d n = true ∧ okDs ds n = true := by simpa [okDs] using o
      exact .cons (DV.dp hc d _ n h1 o'.1) (DVs.dp hc ds _ n h2 o'.2)
end
end
mutual
theorem okD_lay : ∀ (d : D) (n : Nat), okD d n = true → (toP d).canLay0 = true ∧ (toP d).depth ≤ n
  | .non, _, _ => by simp [toP, PyData.canLay0, PyData.depth]
  | .bl b, _, _ => by simp [toP, PyData.canLay0, PyData.depth]
  | .int i, _, _ => by simp [toP, PyData.canLay0, PyData.depth]
  | .str x, _, o => by
    have o : PyData.strOk x = true := by simpa [okD] using o
    simp [toP, PyData.canLay0, PyData.depth, o]
  | .tup xs, 0, o => by simp [okD] at o
  | .lst xs, 0, o => by simp [okD] at o
  | .tup xs, n + 1, o => by
    obtain ⟨h1, h2⟩ := okDs_lay xs n (by simpa [okD] using o)
    simp only [toP, PyData.canLay0, PyData.depth]
    exact ⟨h1, Nat.succ_le_succ h2⟩
  | .lst xs, n + 1, o => by
    obtain ⟨h1, h2⟩ := okDs_lay xs n (by simpa [okD] using o)
    simp only [toP, PyData.canLay0, PyData.depth]
    exact ⟨h1, Nat.succ_le_succ h2⟩
  | .loc _, _, o => by simp [okD] at o
  | .fn _, _, o => by simp [okD] at o
  | .arr _, _, o => by simp [okD] at o
theorem okDs_lay : ∀ (ds : List D) (n : Nat), okDs ds n = true → PyData.canLayAll0 (toPs ds) = true ∧ PyData.depthAll (toPs ds) ≤ n
  | [], _, _ => by simp [toPs, PyData.canLayAll0, PyData.depthAll]
  | d :: ds, n, o => by
    have o' : okD d n = true ∧ okDs ds n = true := by simpa [okDs] using o
    obtain ⟨h1, h2⟩ := okD_lay d n o'.1
    obtain ⟨h3, h4⟩ := okDs_lay ds n o'.2
    simp only [toPs, PyData.canLayAll0, PyData.depthAll, h1, h3]
    exact ⟨rfl, Nat.max_le.mpr ⟨h2, h4⟩⟩
end
theorem okD_shaped {d : D} (h : okD d 64 = true) : SeqAt.shaped (toP d) = true := by
  obtain ⟨h1, h2⟩ := okD_lay d 64 h
  unfold SeqAt.shaped
  rw [h1, decide_eq_true h2]; rfl
mutual
theorem eqv_eqD : ∀ (x y : D) (n m : Nat), okD x n = true → okD y m = true → PyData.eqv (toP x) (toP y) = eqD x y
  | .tup xs, .tup ys, n + 1, m + 1, h1, h2 => by
    simp only [toP, PyData.eqv, eqD]
    exact eqvs_eqDs xs ys n m (by simpa [okD] using h1) (by simpa [okD] using h2)
  | .lst xs, .lst ys, n + 1, m + 1, h1, h2 => by
    simp only [toP, PyData.eqv, eqD]
    exact eqvs_eqDs xs ys n m (by simpa [okD] using h1) (by simpa [okD] using h2)
  | .tup xs, _, 0, _, h1, _ => by simp [okD] at h1
  | .lst xs, _, 0, _, h1, _ => by simp [okD] at h1
  | _, .tup xs, _, 0, _, h1 => by simp [okD] at h1
  | _, .lst xs, _, 0, _, h1 => by simp [okD] at h1
  | .loc _, _, _, _, h1, _ => by simp [okD] at h1
  | .fn _, _, _, _, h1, _ => by simp [okD] at h1
  | .arr _, _, _, _, h1, _ => by simp [okD] at h1
  | _, .loc _, _, _, _, h1 => by simp [okD] at h1
  | _, .fn _, _, _, _, h1 => by simp [okD] at h1
  | _, .arr _, _, _, _, h1 => by simp [okD] at h1
  | .non, .non, _, _, _, _ => by simp [toP, PyData.eqv, eqD]
  | .non, .bl _, _, _, _, _ => by simp [toP, PyData.eqv, eqD]
  | .non, .int _, _, _, _, _ => by simp [toP, PyData.eqv, eqD]
  | .non, .str _, _, _, _, _ => by simp [toP, PyData.eqv, eqD]
  | .non, .tup _, _, _, _, _ => by simp [toP, PyData.eqv, eqD]
  | .non, .lst _, _, _, _, _ => by simp [toP, PyData.eqv, eqD]
  | .bl _, .non, _, _, _, _ => by simp [toP, PyData.eqv, eqD]
  | .bl _, .bl _, _, _, _, _ => by simp [toP, PyData.eqv, eqD]
  | .bl _, .int _, _, _, _, _ => by simp [toP, PyData.eqv, eqD]
  | .bl _, .str _, _, _, _, _ => by simp [toP, PyData.eqv, eqD]
  | .bl _, .tup _, _, _, _, _ => by simp [toP, PyData.eqv, eqD]
  | .bl _, .lst _, _, _, _, _ => by simp [toP, PyData.eqv, eqD]
  | .int _, .non, _, _, _, _ => by simp [toP, PyData.eqv, eqD]
  | .int _, .bl _, _, _, _, _ => by simp [toP, PyData.eqv, eqD]
  | .int _, .int _, _, _, _, _ => by simp [toP, PyData.eqv, eqD]
  | .int _, .str _, _, _, _, _ => by simp [toP, PyData.eqv, eqD]
  | .int _, .tup _, _, _, _, _ => by simp [toP, PyData.eqv, eqD]
  | .int _, .lst _, _, _, _, _ => by simp [toP, PyData.eqv, eqD]
  | .str _, .non, _, _, _, _ => by simp [toP, PyData.eqv, eqD]
  | .str _, .bl _, _, _, _, _ => by simp [toP, PyData.eqv, eqD]
  | .str _, .int _, _, _, _, _ => by simp [toP, PyData.eqv, eqD]
  | .str _, .str _, _, _, _, _ => by simp [toP, PyData.eqv, eqD]
  | .str _, .tup _, _, _, _, _ => by simp [toP, PyData.eqv, eqD]
  | .str _, .lst _, _, _, _, _ => by simp [toP, PyData.eqv, eqD]
  | .tup _, .non, _, _, _, _ => by simp [toP, PyData.eqv, eqD]
  | .tup _, .bl _, _, _, _, _ => by simp [toP, PyData.eqv, eqD]
  | .tup _, .int _, _, _, _, _ => by simp [toP, PyData.eqv, eqD]
  | .tup _, .str _, _, _, _, _ => by simp [toP, PyData.eqv, eqD]
  | .tup _, .lst _, _, _, _, _ => by simp [toP, PyData.eqv, eqD]
  | .lst _, .non, _, _, _, _ => by simp [toP, PyData.eqv, eqD]
  | .lst _, .bl _, _, _, _, _ => by simp [toP, PyData.eqv, eqD]
  | .lst _, .int _, _, _, _, _ => by simp [toP, PyData.eqv, eqD]
  | .lst _, .str _, _, _, _, _ => by simp [toP, PyData.eqv, eqD]
  | .lst _, .tup _, _, _, _, _ => by simp [toP, PyData.eqv, eqD]
theorem eqvs_eqDs : ∀ (xs ys : List D) (n m : Nat), okDs xs n = true → okDs ys m = true → PyData.eqvAll (toPs xs) (toPs ys) = eqDs xs ys
  | [], [], _, _, _, _ => by simp [toPs, PyData.eqvAll, eqDs]
  | [], _ :: _, _, _, _, _ => by simp [toPs, PyData.eqvAll, eqDs]
  | _ :: _, [], _, _, _, _ => by simp [toPs, PyData.eqvAll, eqDs]
  | x :: xs, y :: ys, n, m, h1, h2 => by
    have a : okD x n = true ∧ okDs xs n = true := by simpa [okDs] using h1
    have b : okD y m = true ∧ okDs ys m = true := by simpa [okDs] using h2
    simp only [toPs, PyData.eqvAll, eqDs, eqv_eqD x y n m a.1 b.1, eqvs_eqDs xs ys n m a.2 b.2]
end
end
end GL
/-! GL part 4: operators and comparisons. -/
namespace GL
open PySem L2

/-- a value as it stands now: a list, mutable or not, by its items -/
inductive DH (M : Im) (w : Wd) (H : Hp) : D → V → Prop
  | lst {xs : List D} {vs : List V} {a : Addr} : H a = some (.lst vs) → DVs M w xs vs → DH M w H (.lst xs) (.ref a)
  | dv {d : D} {v : V} : DV M w d v → (∀ xs, d ≠ .lst xs) → DH M w H d v
section
variable {M : Im} {W : XW} {X : Cx} {k : Nat} {w : Wd} {fr : List (Addr × HO)} {env : Env'} {G : Gh} {σ : L2.St} {H : Hp} {x y : D} {v u : V}
theorem DH.of (r : RS M w fr env G σ H) (h : DV M w x v) : DH M w H (deref G x) v := by
  cases h with
  | lst h1 h2 => exact .lst (r.cold _ _ h1) h2
  | loc h1 =>
    rename_i n a
    cases e : G[n]? with
    | none =>
      have e' : deref G (.loc n) = .loc n := by simp [deref, e]
      rw [e']
      exact .dv (.loc h1) (fun _ z => nomatch z)
    | some o =>
      cases o with
      | ins c fs =>
        have e' : deref G (.loc n) = .loc n := by simp [deref, e]
        rw [e']
        exact .dv (.loc h1) (fun _ z => nomatch z)
      | lst xs =>
        have e' : deref G (.loc n) = .lst xs := by simp [deref, e]
        rw [e']
        obtain ⟨b, ho, q1, q2, q3⟩ := r.obj e
        rw [h1] at q1; cases q1
        cases q3 with
        | lst q3 => exact .lst q2 q3
  | non => exact .dv .non (fun _ z => nomatch z)
  | bl b => exact .dv (.bl b) (fun _ z => nomatch z)
  | int b => exact .dv (.int b) (fun _ z => nomatch z)
  | str b => exact .dv (.str b) (fun _ z => nomatch z)
  | tup a b => exact .dv (.tup a b) (fun _ z => nomatch z)
  | fn a => exact .dv (.fn a) (fun _ z => nomatch z)
  | arr a => exact .dv (.arr a) (fun _ z => nomatch z)
theorem DH.int {i : Int} (h : DH M w H (.int i) v) : v = .int i := by cases h with | dv h _ => cases h; rfl
theorem DH.str {i : Str} (h : DH M w H (.str i) v) : v = .str i := by cases h with | dv h _ => cases h; rfl
theorem DH.bl {i : Bool} (h : DH M w H (.bl i) v) : v = .bl i := by cases h with | dv h _ => cases h; rfl
theorem DH.non (h : DH M w H .non v) : v = .non := by cases h with | dv h _ => cases h; rfl
theorem DH.tup {xs : List D} (h : DH M w H (.tup xs) v) : ∃ a vs, v = .ref a ∧ SqT M.K w.C a vs ∧ DVs M w xs vs := by
  cases h with | dv h _ => cases h with | tup h1 h2 => exact ⟨_, _, rfl, h1, h2⟩
theorem DH.list {xs : List D} (h : DH M w H (.lst xs) v) : ∃ a vs, v = .ref a ∧ H a = some (.lst vs) ∧ DVs M w xs vs := by
  cases h with
  | lst h1 h2 => exact ⟨_, _, rfl, h1, h2⟩
  | dv h n => exact absurd rfl (n _)
theorem DH.arr {ns : List Int} (h : DH M w H (.arr ns) v) : ∃ a, v = .ref a ∧ SqL M.K w.C a (ns.map V.int) := by
  cases h with | dv h _ => cases h with | arr h1 => exact ⟨_, rfl, h1⟩
theorem DH.dp (hc : ∀ a o, w.C a = some o → H a = some o) {n : Nat} (h : DH M w H x v) (o : okD x n = true) : Dp M.K H v (toP x) := by
  cases h with
  | dv h _ => exact h.dp hc _ _ _ o
  | lst h1 h2 =>
    rename_i xs vs a
    cases n with
    | zero => simp [okD] at o
    | succ n => exact .lst (.inl (.inl h1)) (DVs.dp hc _ _ n h2 (by simpa [okD] using o))
/-- a new tuple, a new list are handed on -/
theorem post_tup {Q : VK} {xs : List D} {vs : List V} (r : RS M w fr env G σ H) (hx : DVs M w xs vs) (h : Post M W fr env σ w (PE' M Q) (.ok (.tup xs) G)) {p : Addr} (hp : H p = none) : Q (.ref p) (upd H p (.tup vs)) := by
  obtain ⟨l, r'⟩ := r.newCold (o := .tup vs) hp
  exact h _ _ l r' _ (.tup (.inl (.inl upd_same)) (hx.up l))
theorem post_lst {Q : VK} {xs : List D} {vs : List V} (r : RS M w fr env G σ H) (hx : DVs M w xs vs) (h : Post M W fr env σ w (PE' M Q) (.ok (.lst xs) G)) {p : Addr} (hp : H p = none) : Q (.ref p) (upd H p (.lst vs)) := by
  obtain ⟨l, r'⟩ := r.newCold (o := .lst vs) hp
  exact h _ _ l r' _ (.lst upd_same (hx.up l))
theorem guard_post {α : Type} {P : D → Wd → Gh → Hp → Prop} {b : Bool} {d : D} (h : Post M W fr env σ w P (guardR b d G)) : b = true ∧ Post M W fr env σ w P (.ok d G) := by
  unfold guardR at h
  cases b with
  | true => exact ⟨rfl, h⟩
  | false => exact h.elim
end

section
variable {M : Im} {W : XW} {X : Cx} {k : Nat}
theorem op_fdivG : OpR X (binaryOp .FloorDiv) (rI (fun _ j => j ≠ 0 ∧ j.natAbs.log2 < 9000) fun i j => .int (i.fdiv j)) := opI fun _ _ _ _ _ _ _ hc q => PyProof.Rows.floordiv_int hc.1 q (.inl (PyProof.noPylong_of_log2 hc.2))

def OpOk (M : Im) (W : XW) (X : Cx) (f : Value → Value → Sem Value) (o : D → D → Gh → R D) : Prop :=
  ∃ r, OpR X f r ∧ ∀ w fr env G σ H Q x y vx vy, RS M w fr env G σ H → DV M w x vx → DV M w y vy → Post M W fr env σ w (PE' M Q) (o x y G) → r vx vy H Q

theorem binop_ok (g : GX M k X) (op : Operator) : OpOk M W X (binaryOp op) (binop op) := by
  have never : ∀ f : Value → Value → Sem Value, OpR X f (fun _ _ _ _ => False) := fun f _ _ _ _ _ _ _ _ _ _ _ _ h => h.elim
  cases op with
  | Add =>
    refine ⟨_, op_add.or (op_add_str.or (op_catA.or op_cat)), fun w fr env G σ H Q x y vx vy r hx hy h => ?_⟩
    have dx := DH.of r hx
    have dy := DH.of r hy
    unfold binop at h
    generalize deref G x = x' at *
    generalize deref G y = y' at *
    cases x' <;> cases y' <;> try exact h.elim
    · rw [dx.int, dy.int]
      exact .inl ⟨_, _, rfl, rfl, Post.here h r _ (.int _)⟩
    · obtain ⟨hb, h⟩ := guard_post (α := D) h
      rw [dx.str, dy.str]
      exact .inr (.inl ⟨_, _, rfl, rfl, lim_le (of_decide_eq_true hb), Post.here h r _ (.str _)⟩)
    · obtain ⟨hb, h⟩ := guard_post (α := D) h
      obtain ⟨a, vs, rfl, hs, hd⟩ := dx.tup
      obtain ⟨b, us, rfl, hs', hd'⟩ := dy.tup
      have ha := SqT.mono r.cold hs
      have hb' := SqT.mono r.cold hs'
      rw [← g.K] at ha hb'
      refine .inr (.inr (.inl ⟨a, b, vs, us, rfl, rfl, ha, hb', ?_, fun e => ?_, fun e e' => ?_, fun e e' p hp => ?_⟩))
      · rw [← hd.length, ← hd'.length]; exact lim_le (of_decide_eq_true hb)
      · subst e
        cases hd
        exact Post.here h r _ (.tup hs' hd')
      · subst e'
        cases hd'
        rw [List.append_nil] at h
        exact Post.here h r _ (.tup hs hd)
      · exact post_tup r (hd.append hd') h hp
    · obtain ⟨hb, h⟩ := guard_post (α := D) h
      obtain ⟨a, vs, rfl, hs, hd⟩ := dx.list
      obtain ⟨b, us, rfl, hs', hd'⟩ := dy.list
      refine .inr (.inr (.inr ⟨a, b, vs, us, rfl, rfl, hs, hs', ?_, fun p hp => ?_⟩))
      · rw [← hd.length, ← hd'.length]; exact lim_le (of_decide_eq_true hb)
      · exact post_lst r (hd.append hd') h hp
  | Sub =>
    refine ⟨_, op_sub, fun w fr env G σ H Q x y vx vy r hx hy h => ?_⟩
    have dx := DH.of r hx
    have dy := DH.of r hy
    unfold binop at h
    generalize deref G x = x' at *
    generalize deref G y = y' at *
    cases x' <;> cases y' <;> try exact h.elim
    rw [dx.int, dy.int]
    exact ⟨_, _, rfl, rfl, Post.here h r _ (.int _)⟩
  | Mult =>
    refine ⟨_, op_mul.or (op_mulW.or op_rep), fun w fr env G σ H Q x y vx vy r hx hy h => ?_⟩
    have dx := DH.of r hx
    have dy := DH.of r hy
    unfold binop at h
    generalize deref G x = x' at *
    generalize deref G y = y' at *
    cases x' <;> cases y' <;> try exact h.elim
    · rename_i i j
      obtain ⟨hb, h⟩ := guard_post (α := D) h
      rw [dx.int, dy.int]
      have hb := tru_iff.mp hb
      rcases hb with (hb | hb) | hb
      · exact .inl ⟨_, _, rfl, rfl, .inl hb, Post.here h r _ (.int _)⟩
      · exact .inl ⟨_, _, rfl, rfl, .inr hb, Post.here h r _ (.int _)⟩
      · exact .inr (.inl ⟨_, _, rfl, rfl, hb, Post.here h r _ (.int _)⟩)
    · rename_i xs j
      obtain ⟨hb, h⟩ := guard_post (α := D) h
      obtain ⟨a, vs, rfl, hs, hd⟩ := dx.list
      rw [dy.int]
      simp only [Bool.and_eq_true, decide_eq_true_eq] at hb
      have rep : ∀ n : Nat, DVs M w (List.replicate n xs).flatten (List.replicate n vs).flatten := fun n => by
        induction n with
        | zero => exact .nil
        | succ n ih => simp only [List.replicate_succ, List.flatten_cons]; exact hd.append ih
      refine .inr (.inr ⟨a, j, vs, rfl, rfl, hs, by omega, by omega, ?_, fun p hp => ?_⟩)
      · rw [← hd.length]; exact lim_le hb.2
      · exact post_lst r (rep _) h hp
  | FloorDiv =>
    refine ⟨_, op_fdivG, fun w fr env G σ H Q x y vx vy r hx hy h => ?_⟩
    have dx := DH.of r hx
    have dy := DH.of r hy
    unfold binop at h
    generalize deref G x = x' at *
    generalize deref G y = y' at *
    cases x' <;> cases y' <;> try exact h.elim
    obtain ⟨hb, h⟩ := guard_post (α := D) h
    have hb := tru_iff.mp hb
    rw [dx.int, dy.int]
    exact ⟨_, _, rfl, rfl, hb, Post.here h r _ (.int _)⟩
  | Mod =>
    refine ⟨_, op_modN, fun w fr env G σ H Q x y vx vy r hx hy h => ?_⟩
    have dx := DH.of r hx
    have dy := DH.of r hy
    unfold binop at h
    generalize deref G x = x' at *
    generalize deref G y = y' at *
    cases x' <;> cases y' <;> try exact h.elim
    obtain ⟨hb, h⟩ := guard_post (α := D) h
    rw [dx.int, dy.int]
    exact ⟨_, _, rfl, rfl, of_decide_eq_true hb, Post.here h r _ (.int _)⟩
  | Pow =>
    refine ⟨_, op_pow, fun w fr env G σ H Q x y vx vy r hx hy h => ?_⟩
    have dx := DH.of r hx
    have dy := DH.of r hy
    unfold binop at h
    generalize deref G x = x' at *
    generalize deref G y = y' at *
    cases x' <;> cases y' <;> try exact h.elim
    obtain ⟨hb, h⟩ := guard_post (α := D) h
    have hb := tru_iff.mp hb
    rw [dx.int, dy.int]
    exact ⟨_, _, rfl, rfl, ⟨hb.1.1, hb.1.2, hb.2⟩, Post.here h r _ (.int _)⟩
  | MatMult => exact ⟨_, never _, fun w fr env G σ H Q x y vx vy r hx hy h => by unfold binop binopV at h; exact h⟩
  | Div => exact ⟨_, never _, fun w fr env G σ H Q x y vx vy r hx hy h => by unfold binop binopV at h; exact h⟩
  | LShift => exact ⟨_, never _, fun w fr env G σ H Q x y vx vy r hx hy h => by unfold binop binopV at h; exact h⟩
  | RShift => exact ⟨_, never _, fun w fr env G σ H Q x y vx vy r hx hy h => by unfold binop binopV at h; exact h⟩
  | BitOr => exact ⟨_, never _, fun w fr env G σ H Q x y vx vy r hx hy h => by unfold binop binopV at h; exact h⟩
  | BitXor => exact ⟨_, never _, fun w fr env G σ H Q x y vx vy r hx hy h => by unfold binop binopV at h; exact h⟩
  | BitAnd => exact ⟨_, never _, fun w fr env G σ H Q x y vx vy r hx hy h => by unfold binop binopV at h; exact h⟩

variable {a b c : Expr} {ma mb mc : ME} {pos : Pos}
theorem se_bin (g : GX M k X) {op : Operator} (ha : SE M W X a ma) (hb : SE M W X b mb) : SE M W X (.BinOp a op b pos) (eBin op ma mb) := by
  obtain ⟨r, o1, o2⟩ := binop_ok (W := W) g op
  obtain ⟨ta, a1, a2⟩ := ha
  obtain ⟨tb, b1, b2⟩ := hb
  refine ⟨_, pe_op o1 a1 b1, fun w fr env G σ H Q rs h => ?_⟩
  refine a2 w fr env G σ H _ rs ((Post.bind h).imp fun x w1 G1 H1 l1 r1 h1 vx dx => ?_)
  refine b2 w1 fr env G1 σ H1 _ r1 ((Post.bind h1).imp fun y w2 G2 H2 l2 r2 h2 vy dy => ?_)
  exact o2 w2 fr env G2 σ H2 Q x y vx vy r2 (dx.up l2) dy h2
end
end GL
/-! GL part 5: comparisons, tests, displays, subscripts. -/
namespace GL
open PySem L2
section
variable {M : Im} {W : XW} {X : Cx} {k : Nat}
theorem flat_DV {w : Wd} {d : D} {v : V} (h : DV M w d v) (f : flatD d = true) : flatV v = true := by cases h <;> first | rfl | cases f
theorem flat_eq {w : Wd} {d e : D} {v u : V} (h : DV M w d v) (h' : DV M w e u) (f : flatD d = true) (f' : flatD e = true) : eqV v u = eqD d e := by
  cases h <;> cases h' <;> first | rfl | cases f | cases f' | (simp [eqV, eqD])
theorem flat_DVs {w : Wd} : ∀ {ds : List D} {vs : List V}, DVs M w ds vs → ds.all flatD = true → vs.all flatV = true
  | _, _, .nil, _ => rfl
  | _, _, .cons a b, h => by
    simp only [List.all_cons, Bool.and_eq_true] at h ⊢
    exact ⟨flat_DV a h.1, flat_DVs b h.2⟩
theorem flat_in {w : Wd} {x : D} {v : V} (hx : DV M w x v) (f : flatD x = true) : ∀ {ds : List D} {vs : List V}, DVs M w ds vs → ds.all flatD = true → inV v vs = memD x ds
  | _, _, .nil, _ => rfl
  | _, _, .cons a b, h => by
    simp only [List.all_cons, Bool.and_eq_true] at h
    have ih := flat_in hx f b h.2
    unfold inV memD at ih ⊢
    simp only [List.any_cons]
    rw [ih, flat_eq a hx h.1 f]
theorem mem_eqv {x : D} {n m : Nat} (hx : okD x n = true) : ∀ {ds : List D}, okDs ds m = true → ((toPs ds).any fun z => PyData.eqv z (toP x)) = memD x ds
  | [], _ => by simp [toPs, memD]
  | d :: ds, h => by
    have o' : okD d m = true ∧ okDs ds m = true := by simpa [okDs] using h
    have ih := mem_eqv hx o'.2
    unfold memD at ih ⊢
    simp only [toPs, List.any_cons]
    rw [ih, eqv_eqD d x m n o'.1 hx]
theorem isNon_DV {w : Wd} {H : Hp} {d : D} {v : V} (h : DH M w H d v) : decide (v = .non) = isNon d := by
  cases h with
  | lst _ _ => rfl
  | dv h _ => cases h <;> rfl
theorem dec_not {i j : Int} : decide (i ≤ j) = !decide (j < i) := by
  by_cases h : i ≤ j
  · have h2 : ¬ j < i := by omega
    rw [decide_eq_true h, decide_eq_false h2]; rfl
  · have h2 : j < i := by omega
    rw [decide_eq_false h, decide_eq_true h2]; rfl

theorem cmpop_ok (g : GX M k X) (op : CmpOp) : OpOk M W X (compareOp op) (cmpop op) := by
  cases op with
  | Eq =>
    refine ⟨_, op_eq.or (op_eqD g.u64), fun w fr env G σ H Q x y vx vy r hx hy h => ?_⟩
    have dx := DH.of r hx
    have dy := DH.of r hy
    unfold cmpop cmpopV at h
    obtain ⟨hb, h⟩ := guard_post (α := D) h
    simp only [okE, Bool.or_eq_true, Bool.and_eq_true] at hb
    rcases hb with hb | hb
    · generalize deref G x = x' at *
      generalize deref G y = y' at *
      cases x' <;> try exact absurd hb.1 Bool.false_ne_true
      cases y' <;> try exact absurd hb.2 Bool.false_ne_true
      rw [dx.str, dy.str]
      refine .inl ⟨rfl, ?_⟩
      rw [dec_str]
      exact Post.here h r _ (.bl _)
    have e1 := dx.dp r.cold hb.1
    have e2 := dy.dp r.cold hb.2
    rw [← g.K] at e1 e2
    refine .inr ⟨_, _, e1, e2, okD_shaped hb.1, okD_shaped hb.2, ?_⟩
    rw [eqv_eqD _ _ _ _ hb.1 hb.2]
    exact Post.here h r _ (.bl _)
  | NotEq =>
    refine ⟨_, op_ne.or (op_neD g.u64), fun w fr env G σ H Q x y vx vy r hx hy h => ?_⟩
    have dx := DH.of r hx
    have dy := DH.of r hy
    unfold cmpop cmpopV at h
    obtain ⟨hb, h⟩ := guard_post (α := D) h
    simp only [okE, Bool.or_eq_true, Bool.and_eq_true] at hb
    rcases hb with hb | hb
    · generalize deref G x = x' at *
      generalize deref G y = y' at *
      cases x' <;> try exact absurd hb.1 Bool.false_ne_true
      cases y' <;> try exact absurd hb.2 Bool.false_ne_true
      rw [dx.str, dy.str]
      refine .inl ⟨rfl, ?_⟩
      rw [dec_str]
      exact Post.here h r _ (.bl _)
    have e1 := dx.dp r.cold hb.1
    have e2 := dy.dp r.cold hb.2
    rw [← g.K] at e1 e2
    refine .inr ⟨_, _, e1, e2, okD_shaped hb.1, okD_shaped hb.2, ?_⟩
    rw [eqv_eqD _ _ _ _ hb.1 hb.2]
    exact Post.here h r _ (.bl _)
  | Lt =>
    refine ⟨_, op_lt.or op_lt_str, fun w fr env G σ H Q x y vx vy r hx hy h => ?_⟩
    have dx := DH.of r hx
    have dy := DH.of r hy
    unfold cmpop cmpopV at h
    generalize deref G x = x' at *
    generalize deref G y = y' at *
    cases x' <;> cases y' <;> try exact h.elim
    · rw [dx.int, dy.int]; exact .inl ⟨_, _, rfl, rfl, Post.here h r _ (.bl _)⟩
    · rw [dx.str, dy.str]; exact .inr ⟨_, _, rfl, rfl, Post.here h r _ (.bl _)⟩
  | Gt =>
    refine ⟨_, op_gt.or op_gt_str, fun w fr env G σ H Q x y vx vy r hx hy h => ?_⟩
    have dx := DH.of r hx
    have dy := DH.of r hy
    unfold cmpop cmpopV at h
    generalize deref G x = x' at *
    generalize deref G y = y' at *
    cases x' <;> cases y' <;> try exact h.elim
    · rw [dx.int, dy.int]; exact .inl ⟨_, _, rfl, rfl, Post.here h r _ (.bl _)⟩
    · rw [dx.str, dy.str]; exact .inr ⟨_, _, rfl, rfl, Post.here h r _ (.bl _)⟩
  | LtE =>
    refine ⟨_, op_le.or op_le_str, fun w fr env G σ H Q x y vx vy r hx hy h => ?_⟩
    have dx := DH.of r hx
    have dy := DH.of r hy
    unfold cmpop cmpopV at h
    generalize deref G x = x' at *
    generalize deref G y = y' at *
    cases x' <;> cases y' <;> try exact h.elim
    · rw [dx.int, dy.int]; exact .inl ⟨_, _, rfl, rfl, by dsimp only; rw [dec_not]; exact Post.here h r _ (.bl _)⟩
    · rw [dx.str, dy.str]; exact .inr ⟨_, _, rfl, rfl, Post.here h r _ (.bl _)⟩
  | GtE =>
    refine ⟨_, op_ge.or op_ge_str, fun w fr env G σ H Q x y vx vy r hx hy h => ?_⟩
    have dx := DH.of r hx
    have dy := DH.of r hy
    unfold cmpop cmpopV at h
    generalize deref G x = x' at *
    generalize deref G y = y' at *
    cases x' <;> cases y' <;> try exact h.elim
    · rw [dx.int, dy.int]; exact .inl ⟨_, _, rfl, rfl, by dsimp only; rw [dec_not]; exact Post.here h r _ (.bl _)⟩
    · rw [dx.str, dy.str]; exact .inr ⟨_, _, rfl, rfl, Post.here h r _ (.bl _)⟩
  | Is =>
    refine ⟨_, op_isN, fun w fr env G σ H Q x y vx vy r hx hy h => ?_⟩
    have dx := DH.of r hx
    have dy := DH.of r hy
    unfold cmpop at h
    generalize deref G x = x' at *
    generalize deref G y = y' at *
    cases y' <;> try exact h.elim
    refine ⟨dy.non, ?_⟩
    rw [isNon_DV dx]
    exact Post.here h r _ (.bl _)
  | IsNot =>
    refine ⟨_, op_notN, fun w fr env G σ H Q x y vx vy r hx hy h => ?_⟩
    have dx := DH.of r hx
    have dy := DH.of r hy
    unfold cmpop at h
    generalize deref G x = x' at *
    generalize deref G y = y' at *
    cases y' <;> try exact h.elim
    refine ⟨dy.non, ?_⟩
    rw [isNon_DV dx]
    exact Post.here h r _ (.bl _)
  | In =>
    refine ⟨_, (op_inD g.u65).or (op_in_seq.or op_in_sign), fun w fr env G σ H Q x y vx vy r hx hy h => ?_⟩
    have dx := DH.of r hx
    have dy := DH.of r hy
    unfold cmpop cmpopV at h
    generalize deref G x = x' at *
    generalize deref G y = y' at *
    cases y' <;> try (exact h.elim)
    · cases x' <;> try (exact h.elim)
      rename_i z x
      obtain ⟨hb, h⟩ := guard_post (α := D) h
      rw [dx.str, dy.str]
      obtain ⟨cs⟩ := x
      have e : ∃ c, cs = #[c] := by
        have := beq_iff_eq.mp hb
        exact Array.size_eq_one_iff.mp this
      obtain ⟨c, rfl⟩ := e
      exact .inr (.inr ⟨c, z, rfl, rfl, Post.here h r _ (.bl _)⟩)
    · rename_i ys
      have h : Post M W fr env σ w (PE' M Q) (guardR (flatD x' && ys.all flatD) (.bl (memD x' ys)) G) := by
        cases x' <;> exact h
      obtain ⟨hb, h⟩ := guard_post (α := D) h
      simp only [Bool.and_eq_true] at hb
      obtain ⟨a, vs, rfl, hs, hd⟩ := dy.tup
      have hs' := SqT.mono r.cold hs
      rw [← g.K] at hs'
      have dv : DV M w x' vx := by
        cases dx with
        | lst _ _ => cases hb.1
        | dv q _ => exact q
      refine .inr (.inl ⟨a, vs, rfl, .inr hs', flat_DV dv hb.1, flat_DVs hd hb.2, ?_⟩)
      rw [flat_in dv hb.1 hd hb.2]
      exact Post.here h r _ (.bl _)
    · rename_i ys
      have h : Post M W fr env σ w (PE' M Q) (guardR (okD x' 64 && okD (.lst ys) 64) (.bl (memD x' ys)) G) := by
        cases x' <;> exact h
      obtain ⟨hb, h⟩ := guard_post (α := D) h
      simp only [Bool.and_eq_true] at hb
      have e1 := dx.dp r.cold hb.1
      have e2 := dy.dp r.cold hb.2
      rw [← g.K] at e1 e2
      have e3 := okD_shaped hb.2
      rw [show toP (.lst ys) = .list (toPs ys) by rw [toP]] at e2 e3
      refine .inl ⟨_, _, e1, e2, okD_shaped hb.1, e3, ?_⟩
      rw [mem_eqv hb.1 (show okDs ys 63 = true by have := hb.2; simpa [okD] using this)]
      exact Post.here h r _ (.bl _)
  | NotIn =>
    refine ⟨_, (op_notInD g.u65).or (op_notIn_seq.or op_notIn_sign), fun w fr env G σ H Q x y vx vy r hx hy h => ?_⟩
    have dx := DH.of r hx
    have dy := DH.of r hy
    unfold cmpop cmpopV at h
    generalize deref G x = x' at *
    generalize deref G y = y' at *
    have ng : ∀ {b : Bool} {d : Bool}, Post M W fr env σ w (PE' M Q) (notR (guardR b (.bl d) G)) → b = true ∧ Post M W fr env σ w (PE' M Q) (.ok (.bl (!d)) G) := fun {b d} q => by
      cases b with
      | true => exact ⟨rfl, q⟩
      | false => exact q.elim
    cases y' <;> try (exact h.elim)
    · cases x' <;> try (exact h.elim)
      rename_i z x
      obtain ⟨hb, h⟩ := ng h
      rw [dx.str, dy.str]
      obtain ⟨cs⟩ := x
      have e : ∃ c, cs = #[c] := by
        have := beq_iff_eq.mp hb
        exact Array.size_eq_one_iff.mp this
      obtain ⟨c, rfl⟩ := e
      exact .inr (.inr ⟨c, z, rfl, rfl, Post.here h r _ (.bl _)⟩)
    · rename_i ys
      have h : Post M W fr env σ w (PE' M Q) (notR (guardR (flatD x' && ys.all flatD) (.bl (memD x' ys)) G)) := by
        cases x' <;> exact h
      obtain ⟨hb, h⟩ := ng h
      simp only [Bool.and_eq_true] at hb
      obtain ⟨a, vs, rfl, hs, hd⟩ := dy.tup
      have hs' := SqT.mono r.cold hs
      rw [← g.K] at hs'
      have dv : DV M w x' vx := by
        cases dx with
        | lst _ _ => cases hb.1
        | dv q _ => exact q
      refine .inr (.inl ⟨a, vs, rfl, .inr hs', flat_DV dv hb.1, flat_DVs hd hb.2, ?_⟩)
      rw [flat_in dv hb.1 hd hb.2]
      exact Post.here h r _ (.bl _)
    · rename_i ys
      have h : Post M W fr env σ w (PE' M Q) (notR (guardR (okD x' 64 && okD (.lst ys) 64) (.bl (memD x' ys)) G)) := by
        cases x' <;> exact h
      obtain ⟨hb, h⟩ := ng h
      simp only [Bool.and_eq_true] at hb
      have e1 := dx.dp r.cold hb.1
      have e2 := dy.dp r.cold hb.2
      rw [← g.K] at e1 e2
      have e3 := okD_shaped hb.2
      rw [show toP (.lst ys) = .list (toPs ys) by rw [toP]] at e2 e3
      refine .inl ⟨_, _, e1, e2, okD_shaped hb.1, e3, ?_⟩
      rw [mem_eqv hb.1 (show okDs ys 63 = true by have := hb.2; simpa [okD] using this)]
      exact Post.here h r _ (.bl _)

variable {a b c : Expr} {ma mb mc : ME} {pos : Pos}
theorem se_cmp (g : GX M k X) {op : CmpOp} (ha : SE M W X a ma) (hb : SE M W X b mb) (hm : behindInMarks op b = false) : SE M W X (.Compare a [op] [b] pos) (eCmp op ma mb) := by
  obtain ⟨r, o1, o2⟩ := cmpop_ok (W := W) g op
  obtain ⟨ta, a1, a2⟩ := ha
  obtain ⟨tb, b1, b2⟩ := hb
  refine ⟨_, pe_cmpR o1 a1 b1 hm, fun w fr env G σ H Q rs h => ?_⟩
  refine a2 w fr env G σ H _ rs ((Post.bind h).imp fun x w1 G1 H1 l1 r1 h1 vx dx => ?_)
  refine b2 w1 fr env G1 σ H1 _ r1 ((Post.bind h1).imp fun y w2 G2 H2 l2 r2 h2 vy dy => ?_)
  exact o2 w2 fr env G2 σ H2 Q x y vx vy r2 (dx.up l2) dy h2
/-- a reading that asks a bool -/
theorem asB_post {α : Type} {P : α → Wd → Gh → Hp → Prop} {f : Bool → Gh → R α} {fr : List (Addr × HO)} {env : Env'} {σ : L2.St} {w : Wd} {d : D} {G : Gh} {v : V} (h : Post M W fr env σ w P (asB f d G)) (hd : DV M w d v) :
    ∃ b, v = .bl b ∧ Post M W fr env σ w P (f b G) := by
  cases hd <;> first | exact h.elim | exact ⟨_, rfl, h⟩
theorem st_cmp (g : GX M k X) {op : CmpOp} (ha : SE M W X a ma) (hb : SE M W X b mb) (hm : behindInMarks op b = false) : ST M W X (.Compare a [op] [b] pos) (tV (eCmp op ma mb)) := by
  obtain ⟨r, o1, o2⟩ := cmpop_ok (W := W) g op
  obtain ⟨ta, a1, a2⟩ := ha
  obtain ⟨tb, b1, b2⟩ := hb
  refine ⟨_, pt_cmpR o1 a1 b1 hm, fun w fr env G σ H Q rs h => ?_⟩
  have h := Post.bind h
  refine a2 w fr env G σ H _ rs ((Post.bind h).imp fun x w1 G1 H1 l1 r1 h1 vx dx => ?_)
  refine b2 w1 fr env G1 σ H1 _ r1 ((Post.bind h1).imp fun y w2 G2 H2 l2 r2 h2 vy dy => ?_)
  refine o2 w2 fr env G2 σ H2 _ x y vx vy r2 (dx.up l2) dy (h2.imp fun z w3 G3 H3 l3 r3 h3 vz dz => ?_)
  obtain ⟨b, e, h4⟩ := asB_post h3 dz
  exact ⟨b, e, Post.here h4 r3⟩
theorem chain_read (g : GX M k X) {op op' : CmpOp} {r r' : R2} {tc : TE} {env : Env'} {fr : List (Addr × HO)} {σ : L2.St} {w2 : Wd} {G2 : Gh} {H2 : Hp} {Q : VK} {x y : D} {vx vy : V}
    (o2 : ∀ w fr env G σ H Q x y vx vy, RS M w fr env G σ H → DV M w x vx → DV M w y vy → Post M W fr env σ w (PE' M Q) (cmpop op x y G) → r vx vy H Q)
    (o2' : ∀ w fr env G σ H Q x y vx vy, RS M w fr env G σ H → DV M w x vx → DV M w y vy → Post M W fr env σ w (PE' M Q) (cmpop op' x y G) → r' vx vy H Q)
    (c2 : ∀ w fr env G σ H Q, RS M w fr env G σ H → Post M W fr env σ w (PE' M Q) (mc env G) → tc σ H Q)
    (r2 : RS M w2 fr env G2 σ H2) (dx : DV M w2 x vx) (dy : DV M w2 y vy)
    (h : Post M W fr env σ w2 (PE' M Q) ((cmpop op x y G2).bind (asB fun k g3 => if k then (mc env g3).bind fun z g4 => cmpop op' y z g4 else .ok (.bl false) g3))) :
    r vx vy H2 fun z H3 => ∃ k, z = .bl k ∧ (if k = true then tc σ H3 fun w' H4 => r' vy w' H4 Q else Q (.bl false) H3) := by
  refine o2 w2 fr env G2 σ H2 _ x y vx vy r2 dx dy ((Post.bind h).imp fun z w3 G3 H3 l3 r3 h3 vz dz => ?_)
  obtain ⟨b, e, h4⟩ := asB_post h3 dz
  refine ⟨b, e, ?_⟩
  cases b with
  | false =>
    rw [if_neg (by decide)]
    exact Post.here h4 r3 _ (.bl _)
  | true =>
    rw [if_pos rfl]
    refine c2 w3 fr env G3 σ H3 _ r3 ((Post.bind h4).imp fun z w4 G4 H4 l4 r4 h5 vz' dz' => ?_)
    exact o2' w4 fr env G4 σ H4 Q y z vy vz' r4 ((dy.up l3).up l4) dz' h5
theorem se_chain (g : GX M k X) {op op' : CmpOp} (ha : SE M W X a ma) (hb : SE M W X b mb) (hc : SE M W X c mc) (hm : lastMarks [op, op'] [b, c] = false) : SE M W X (.Compare a [op, op'] [b, c] pos) (eChain op op' ma mb mc) := by
  obtain ⟨r, o1, o2⟩ := cmpop_ok (W := W) g op
  obtain ⟨r', o1', o2'⟩ := cmpop_ok (W := W) g op'
  obtain ⟨ta, a1, a2⟩ := ha
  obtain ⟨tb, b1, b2⟩ := hb
  obtain ⟨tc, c1, c2⟩ := hc
  refine ⟨_, pe_chain o1 o1' a1 b1 c1 hm, fun w fr env G σ H Q rs h => ?_⟩
  refine a2 w fr env G σ H _ rs ((Post.bind h).imp fun x w1 G1 H1 l1 r1 h1 vx dx => ?_)
  refine b2 w1 fr env G1 σ H1 _ r1 ((Post.bind h1).imp fun y w2 G2 H2 l2 r2 h2 vy dy => ?_)
  exact chain_read g o2 o2' c2 r2 (dx.up l2) dy h2
theorem st_chain (g : GX M k X) {op op' : CmpOp} (ha : SE M W X a ma) (hb : SE M W X b mb) (hc : SE M W X c mc) (hm : lastMarks [op, op'] [b, c] = false) : ST M W X (.Compare a [op, op'] [b, c] pos) (tV (eChain op op' ma mb mc)) := by
  obtain ⟨r, o1, o2⟩ := cmpop_ok (W := W) g op
  obtain ⟨r', o1', o2'⟩ := cmpop_ok (W := W) g op'
  obtain ⟨ta, a1, a2⟩ := ha
  obtain ⟨tb, b1, b2⟩ := hb
  obtain ⟨tc, c1, c2⟩ := hc
  refine ⟨_, pt_chain o1 o1' a1 b1 c1 hm, fun w fr env G σ H Q rs h => ?_⟩
  have h := Post.bind h
  refine a2 w fr env G σ H _ rs ((Post.bind h).imp fun x w1 G1 H1 l1 r1 h1 vx dx => ?_)
  refine b2 w1 fr env G1 σ H1 _ r1 ((Post.bind h1).imp fun y w2 G2 H2 l2 r2 h2 vy dy => ?_)
  refine chain_read g o2 o2' c2 r2 (dx.up l2) dy (h2.imp fun z w3 G3 H3 l3 r3 h3 vz dz => ?_)
  obtain ⟨b, e, h4⟩ := asB_post h3 dz
  exact ⟨b, e, Post.here h4 r3⟩
theorem se_neg (g : GX M k X) (ha : SE M W X a ma) : SE M W X (.UnaryOp .USub a pos) (eNeg ma) := by
  obtain ⟨ta, a1, a2⟩ := ha
  refine ⟨_, pe_un un_neg a1, fun w fr env G σ H Q rs h => ?_⟩
  refine a2 w fr env G σ H _ rs ((Post.bind h).imp fun x w1 G1 H1 l1 r1 h1 vx dx => ?_)
  cases dx <;> try exact h1.elim
  exact ⟨_, rfl, Post.here h1 r1 _ (.int _)⟩

/-! ### tests -/
/-- an expression whose value is a bool, as a test -/
theorem st_val (ha : SE M W X a ma) (he : ∀ whole, isTrue a X.env whole = (do let v ← whole; standAt a.pos; holding [v] (truthy v))) : ST M W X a (tV ma) := by
  obtain ⟨ta, a1, a2⟩ := ha
  refine ⟨_, pt_val a1 he, fun w fr env G σ H Q rs h => ?_⟩
  refine a2 w fr env G σ H _ rs ((Post.bind h).imp fun x w1 G1 H1 l1 r1 h1 vx dx => ?_)
  obtain ⟨b, e, h4⟩ := asB_post h1 dx
  exact ⟨b, e, Post.here h4 r1⟩
variable {na nb : MT} {rest : List Expr}
theorem sw_and1 (ha : ST M W X a na) : SW M W X (.BoolOp .And [a] pos) na := let ⟨t, h1, h2⟩ := ha; ⟨t, pw_and1 h1, h2⟩
theorem sw_or1 (ha : ST M W X a na) : SW M W X (.BoolOp .Or [a] pos) na := let ⟨t, h1, h2⟩ := ha; ⟨t, pw_or1 h1, h2⟩
theorem sw_and (ha : ST M W X a na) (hb : SW M W X (.BoolOp .And (b :: rest) pos) nb) : SW M W X (.BoolOp .And (a :: b :: rest) pos) (tAnd na nb) := by
  obtain ⟨ta, a1, a2⟩ := ha
  obtain ⟨tb, b1, b2⟩ := hb
  refine ⟨_, pw_and a1 b1, fun w fr env G σ H Q rs h => ?_⟩
  refine a2 w fr env G σ H _ rs ((Post.bind h).imp fun x w1 G1 H1 l1 r1 h1 => ?_)
  cases x with
  | true => exact b2 w1 fr env G1 σ H1 Q r1 h1
  | false => exact Post.here (W := W) (P := PT' Q) (a := false) h1 r1
theorem sw_or (ha : ST M W X a na) (hb : SW M W X (.BoolOp .Or (b :: rest) pos) nb) : SW M W X (.BoolOp .Or (a :: b :: rest) pos) (tOr na nb) := by
  obtain ⟨ta, a1, a2⟩ := ha
  obtain ⟨tb, b1, b2⟩ := hb
  refine ⟨_, pw_or a1 b1, fun w fr env G σ H Q rs h => ?_⟩
  refine a2 w fr env G σ H _ rs ((Post.bind h).imp fun x w1 G1 H1 l1 r1 h1 => ?_)
  cases x with
  | true => exact Post.here (W := W) (P := PT' Q) (a := true) h1 r1
  | false => exact b2 w1 fr env G1 σ H1 Q r1 h1
theorem st_not (ha : ST M W X a na) : ST M W X (.UnaryOp .Not a pos) (tNot na) := by
  obtain ⟨ta, a1, a2⟩ := ha
  refine ⟨_, pt_not a1, fun w fr env G σ H Q rs h => ?_⟩
  exact a2 w fr env G σ H _ rs ((Post.bind h).imp fun x w1 G1 H1 l1 r1 h1 => Post.here (W := W) (P := PT' Q) (a := !x) h1 r1)
theorem se_one {op} (ha : SE M W X a ma) : SE M W X (.BoolOp op [a] pos) ma := let ⟨t, h1, h2⟩ := ha; ⟨t, pe_one h1, h2⟩
theorem se_and (ha : SE M W X a ma) (hb : SE M W X (.BoolOp .And (b :: rest) pos) mb) : SE M W X (.BoolOp .And (a :: b :: rest) pos) (eAnd ma mb) := by
  obtain ⟨ta, a1, a2⟩ := ha
  obtain ⟨tb, b1, b2⟩ := hb
  refine ⟨_, pe_and a1 b1, fun w fr env G σ H Q rs h => ?_⟩
  refine a2 w fr env G σ H _ rs ((Post.bind h).imp fun x w1 G1 H1 l1 r1 h1 vx dx => ?_)
  obtain ⟨b, e, h4⟩ := asB_post h1 dx
  refine ⟨b, e, ?_⟩
  cases b with
  | true => exact b2 w1 fr env G1 σ H1 Q r1 h4
  | false => exact Post.here h4 r1 _ (.bl _)
theorem se_or (ha : SE M W X a ma) (hb : SE M W X (.BoolOp .Or (b :: rest) pos) mb) : SE M W X (.BoolOp .Or (a :: b :: rest) pos) (eOr ma mb) := by
  obtain ⟨ta, a1, a2⟩ := ha
  obtain ⟨tb, b1, b2⟩ := hb
  refine ⟨_, pe_or a1 b1, fun w fr env G σ H Q rs h => ?_⟩
  refine a2 w fr env G σ H _ rs ((Post.bind h).imp fun x w1 G1 H1 l1 r1 h1 vx dx => ?_)
  obtain ⟨b, e, h4⟩ := asB_post h1 dx
  refine ⟨b, e, ?_⟩
  cases b with
  | true => exact Post.here h4 r1 _ (.bl _)
  | false => exact b2 w1 fr env G1 σ H1 Q r1 h4
theorem se_not (ha : SE M W X a ma) : SE M W X (.UnaryOp .Not a pos) (eNot (tV ma)) := by
  obtain ⟨ta, a1, a2⟩ := ha
  refine ⟨_, pe_not a1, fun w fr env G σ H Q rs h => ?_⟩
  have h := Post.bind (Post.bind h)
  refine a2 w fr env G σ H _ rs (h.imp fun x w1 G1 H1 l1 r1 h1 vx dx => ?_)
  obtain ⟨b, e, h4⟩ := asB_post h1 dx
  exact ⟨b, e, Post.here (Post.here h4 r1) r1 _ (.bl _)⟩
theorem se_ife {nc : MT} (hc : ST M W X c nc) (ha : SE M W X a ma) (hb : SE M W X b mb) : SE M W X (.IfExp c a b pos) (eIf nc ma mb) := by
  obtain ⟨ta, a1, a2⟩ := ha
  obtain ⟨tb, b1, b2⟩ := hb
  obtain ⟨tc, c1, c2⟩ := hc
  refine ⟨_, pe_ifExp c1 a1 b1, fun w fr env G σ H Q rs h => ?_⟩
  refine c2 w fr env G σ H _ rs ((Post.bind h).imp fun x w1 G1 H1 l1 r1 h1 => ?_)
  cases x with
  | true => exact a2 w1 fr env G1 σ H1 Q r1 h1
  | false => exact b2 w1 fr env G1 σ H1 Q r1 h1

/-! ### displays -/
variable {es : List Expr} {ml : ML}
theorem sa_nil : SA M W X [] lNil := ⟨_, pa_nil, fun w fr env G σ H Q rs h => Post.here h rs [] .nil⟩
theorem sa_cons (ha : SE M W X a ma) (hr : SA M W X es ml) (hs : starEach (a :: es) X.env = (false, eval a X.env) :: starEach es X.env) : SA M W X (a :: es) (lCons ma ml) := by
  obtain ⟨ta, a1, a2⟩ := ha
  obtain ⟨tb, b1, b2⟩ := hr
  refine ⟨_, pa_cons a1 b1 hs, fun w fr env G σ H Q rs h => ?_⟩
  refine a2 w fr env G σ H _ rs ((Post.bind h).imp fun x w1 G1 H1 l1 r1 h1 vx dx => ?_)
  exact b2 w1 fr env G1 σ H1 _ r1 ((Post.bind h1).imp fun xs w2 G2 H2 l2 r2 h2 vs dvs => Post.here h2 r2 _ (.cons (dx.up l2) dvs))
theorem se_tup {x1} (hl : SA M W X es ml) : SE M W X (.Tuple es x1 pos) (eTup ml) := by
  obtain ⟨tb, b1, b2⟩ := hl
  refine ⟨_, pe_tup b1, fun w fr env G σ H Q rs h => ?_⟩
  refine b2 w fr env G σ H _ rs ((Post.bind h).imp fun xs w1 G1 H1 l1 r1 h1 vs dvs => ?_)
  obtain ⟨hb, h1⟩ := guard_post (α := D) h1
  exact ⟨by rw [← dvs.length]; exact lim_le (of_decide_eq_true hb), fun p hp => post_tup r1 dvs h1 hp⟩
theorem sf_lst (hl : SA M W X es ml) : SF M W X (.List es pos) (fLst ml) := by
  obtain ⟨tb, b1, b2⟩ := hl
  refine ⟨_, pe_lst b1, fun w fr env G σ H Q rs h => ?_⟩
  refine b2 w fr env G σ H _ rs ((Post.bind h).imp fun xs w1 G1 H1 l1 r1 h1 vs dvs => ?_)
  by_cases hb : xs.length ≤ LIM
  · rw [if_pos hb] at h1
    have hz : vs.length ≤ sizeLine := by rw [← dvs.length]; exact lim_le hb
    exact ⟨hz, fun p hp => Post.here h1 r1 vs p dvs hz hp⟩
  · rw [if_neg hb] at h1; exact h1.elim
/-- a new list as a thing that never changes; as a mutable object -/
theorem se_new (h : SF M W X a ml) : SE M W X a (eNew ml) := by
  obtain ⟨ta, a1, a2⟩ := h
  refine ⟨ta, a1, fun w fr env G σ H Q rs h => ?_⟩
  exact a2 w fr env G σ H Q rs ((Post.bind h).imp fun xs w1 G1 H1 l1 r1 h1 vs p dvs hz hp => post_lst r1 dvs h1 hp)
theorem se_alloc (h : SF M W X a ml) : SE M W X a (eAlloc ml) := by
  obtain ⟨ta, a1, a2⟩ := h
  refine ⟨ta, a1, fun w fr env G σ H Q rs h => ?_⟩
  refine a2 w fr env G σ H Q rs ((Post.bind h).imp fun xs w1 G1 H1 l1 r1 h1 vs p dvs hz hp => ?_)
  have l0 : w1.Le ⟨w1.C, w1.ρ ++ [p]⟩ := ⟨fun _ _ e => e, fun n b e => by
    show (w1.ρ ++ [p])[n]? = some b
    rw [List.getElem?_append_left (List.getElem?_eq_some_iff.mp e).1]; exact e⟩
  obtain ⟨l, r'⟩ := r1.newHot (o := .lst xs) (ho := .lst vs) hp (.lst (dvs.up l0))
  refine h1 _ _ l r' _ (.loc ?_)
  have : w1.ρ.length = G1.length := let ⟨_, q, _⟩ := r1; q.len
  show (w1.ρ ++ [p])[G1.length]? = some p
  rw [← this, List.getElem?_append_right (Nat.le_refl _)]
  simp

/-! ### subscripts -/
theorem sub_at {α β : Type} {xs : List α} {ys : List β} (hl : xs.length = ys.length) {i : Int} {x : α} (h : atI xs i = some x) : ∃ j : Nat, xs[j]? = some x ∧ ∀ y, ys[j]? = some y → atI ys i = some y := by
  unfold atI at h ⊢
  cases e : ixN xs.length i with
  | none => rw [e] at h; cases h
  | some j =>
    rw [e] at h
    exact ⟨j, h, fun y hy => by rw [← hl, e]; exact hy⟩
theorem se_sub (g : GX M k X) (ha : SE M W X a ma) (hb : SE M W X b mb) (hs : PlainIx b) : SE M W X (.Subscript a b pos) (eSub ma mb) := by
  obtain ⟨ta, a1, a2⟩ := ha
  obtain ⟨tb, b1, b2⟩ := hb
  refine ⟨_, pe_ix ix_seq a1 b1 hs, fun w fr env G σ H Q rs h => ?_⟩
  refine a2 w fr env G σ H _ rs ((Post.bind h).imp fun x w1 G1 H1 l1 r1 h1 vx dx => ?_)
  refine b2 w1 fr env G1 σ H1 _ r1 ((Post.bind h1).imp fun y w2 G2 H2 l2 r2 h2 vy dy => ?_)
  have dh := DH.of r2 (dx.up l2)
  generalize deref G2 x = x' at *
  cases x' <;> cases dy <;> try exact h2.elim
  · rename_i z i
    rw [dh.str]
    simp only [subD] at h2
    by_cases hz : z.length ≤ LIM
    · rw [if_pos hz] at h2
      cases e : atI z.cps.toList i with
      | none => rw [e] at h2; exact h2.elim
      | some c =>
        rw [e] at h2
        exact .inr (.inr ⟨z, i, c, rfl, rfl, lim_le hz, e, Post.here h2 r2 _ (.str _)⟩)
    · rw [if_neg hz] at h2; exact h2.elim
  · rename_i xs i
    obtain ⟨p, vs, rfl, hs, hd⟩ := dh.tup
    simp only [subD] at h2
    cases e : atI xs i with
    | none => rw [e] at h2; exact h2.elim
    | some d =>
      rw [e] at h2
      obtain ⟨j, h3, h4⟩ := sub_at hd.length e
      obtain ⟨v, h5, h6⟩ := hd.get h3
      have hs' := SqT.mono r2.cold hs
      rw [← g.K] at hs'
      exact .inr (.inl ⟨p, vs, i, v, rfl, rfl, hs', h4 v h5, Post.here h2 r2 _ h6⟩)
  · rename_i xs i
    obtain ⟨p, vs, rfl, hs, hd⟩ := dh.list
    simp only [subD] at h2
    cases e : atI xs i with
    | none => rw [e] at h2; exact h2.elim
    | some d =>
      rw [e] at h2
      obtain ⟨j, h3, h4⟩ := sub_at hd.length e
      obtain ⟨v, h5, h6⟩ := hd.get h3
      exact .inl ⟨p, vs, i, v, rfl, rfl, .inl (.inl hs), h4 v h5, Post.here h2 r2 _ h6⟩
  · rename_i ns i
    obtain ⟨p, rfl, hs⟩ := dh.arr
    simp only [subD] at h2
    cases e : atI ns i with
    | none => rw [e] at h2; exact h2.elim
    | some n =>
      rw [e] at h2
      obtain ⟨j, h3, h4⟩ := sub_at (ys := ns.map V.int) (by simp) e
      have hs' := SqL.mono r2.cold hs
      rw [← g.K] at hs'
      exact .inl ⟨p, _, i, .int n, rfl, rfl, hs', h4 _ (by rw [List.getElem?_map, h3]; rfl), Post.here h2 r2 _ (.int _)⟩
end
end GL
/-! GL part 6: statements, targets, loops. -/
namespace GL
open PySem L2

inductive SR where
  | nx (env : Env') (g : Gh) | rt (d : D) (g : Gh) | bk (env : Env') (g : Gh) | ct (env : Env') (g : Gh) | exc (x : Xv) (g : Gh) | bad
abbrev MS := Env' → Gh → SR
def R.bindS {α : Type} : R α → (α → Gh → SR) → SR
  | .ok a g, f => f a g
  | .exc x g, _ => .exc x g
  | .bad, _ => .bad
@[simp] theorem R.bindS_ok {α : Type} (a : α) (g : Gh) (f : α → Gh → SR) : (R.ok a g).bindS f = f a g := rfl
@[simp] theorem R.bindS_bad {α : Type} (f : α → Gh → SR) : (R.bad : R α).bindS f = .bad := rfl
@[simp] theorem R.bindS_exc {α : Type} (x : Xv) (g : Gh) (f : α → Gh → SR) : (R.exc x g : R α).bindS f = .exc x g := rfl

def PostS (M : Im) (W : XW) (fr : List (Addr × HO)) (w : Wd) (D : Ends) : SR → Prop
  | .nx env' G' => ∀ w' σ' H', w.Le w' → RS M w' fr env' G' σ' H' → D.nx σ' H'
  | .rt d G' => ∀ w' v H', w.Le w' → RG M w' fr G' H' → DV M w' d v → D.rt v H'
  | .bk env' G' => ∀ w' σ' H', w.Le w' → RS M w' fr env' G' σ' H' → D.bk σ' H'
  | .ct env' G' => ∀ w' σ' H', w.Le w' → RS M w' fr env' G' σ' H' → D.ct σ' H'
  | .exc x G' => ∀ w' H', w.Le w' → RG M w' fr G' H' → W x w' G' H'
  | .bad => False
section
variable {M : Im} {W : XW} {fr : List (Addr × HO)} {w w1 : Wd} {D : Ends}
theorem PostS.up {r : SR} (h : PostS M W fr w D r) (l : w.Le w1) : PostS M W fr w1 D r := by
  cases r with
  | nx env G => exact fun w' σ' H' l' r' => h w' σ' H' (l.trans l') r'
  | rt d G => exact fun w' v H' l' r' => h w' v H' (l.trans l') r'
  | bk env G => exact fun w' σ' H' l' r' => h w' σ' H' (l.trans l') r'
  | ct env G => exact fun w' σ' H' l' r' => h w' σ' H' (l.trans l') r'
  | exc x G => exact fun w' H' l' r' => h w' H' (l.trans l') r'
  | bad => exact h
theorem PostS.bind {α : Type} {env : Env'} {σ : L2.St} {r : R α} {f : α → Gh → SR} (h : PostS M W fr w D (r.bindS f)) : Post M W fr env σ w (fun a w1 G1 H1 => PostS M W fr w1 D (f a G1)) r := by
  cases r with
  | ok a G => exact fun w' H' l' r' => PostS.up h l'
  | exc x G => exact h
  | bad => exact h
end
theorem RS.rg {M : Im} {w : Wd} {fr : List (Addr × HO)} {env : Env'} {G : Gh} {σ : L2.St} {H : Hp} (r : RS M w fr env G σ H) : RG M w fr G H := by
  obtain ⟨os, g, _⟩ := r
  exact g.less (List.sublist_append_right _ _)

def SS (M : Im) (W : XW) (X : Cx) (st : Stmt) (m : MS) : Prop := ∃ t, PS X st t ∧ ∀ w fr env G σ H D, RS M w fr env G σ H → PostS M W fr w D (m env G) → t D σ H
def SSs (M : Im) (W : XW) (X : Cx) (st : List Stmt) (m : MS) : Prop := ∃ t, PSs X st t ∧ ∀ w fr env G σ H D, RS M w fr env G σ H → PostS M W fr w D (m env G) → t D σ H

def sSkip : MS := fun env g => .nx env g
def SR.seq : SR → MS → SR
  | .nx env g, f => f env g
  | r, _ => r
@[simp] theorem SR.seq_nx (env : Env') (g : Gh) (f : MS) : (SR.nx env g).seq f = f env g := rfl
@[simp] theorem SR.seq_rt (d : D) (g : Gh) (f : MS) : (SR.rt d g).seq f = .rt d g := rfl
@[simp] theorem SR.seq_bad (f : MS) : (SR.bad).seq f = .bad := rfl
def sSeq (a b : MS) : MS := fun env g => (a env g).seq b
def sIf (c : MT) (a b : MS) : MS := fun env g => (c env g).bindS fun k g1 => if k then a env g1 else b env g1
def sRet (a : ME) : MS := fun env g => (a env g).bindS fun d g1 => .rt d g1
def sRetN : MS := fun env g => .rt .non g
def sBreak : MS := fun env g => .bk env g
def sCont : MS := fun env g => .ct env g
def sDrop (a : ME) : MS := fun env g => (a env g).bindS fun _ g1 => .nx env g1
def sSet (i : Nat) (a : ME) : MS := fun env g => (a env g).bindS fun d g1 => .nx (env.set i (.val d)) g1
def sSetOwn (i : Nat) (l : ML) : MS := fun env g => (l env g).bindS fun xs g1 => if i < env.length then .nx (env.set i (.own xs)) g1 else .bad
noncomputable def sAug (i : Nat) (op : Operator) (a : ME) : MS := fun env g => (eLv i env g).bindS fun x g1 => (a env g1).bindS fun y g2 => (binop op x y g2).bindS fun z g3 => .nx (env.set i (.val z)) g3
/-- what the frame kept to itself in slot i never changes from now on -/
def sFreeze (i : Nat) (a : MS) : MS := fun env g => match env[i]? with
  | some (.own xs) => a (env.set i (.val (.lst xs))) g
  | _ => .bad

section
variable {M : Im} {W : XW} {X : Cx} {k : Nat} {st : Stmt} {rest : List Stmt} {s1 s2 : MS} {a b c : Expr} {ma mb : ME} {na : MT} {pos : Pos}
theorem ss_nil : SSs M W X [] sSkip := ⟨_, pss_nil, fun w fr env G σ H D r h => h w σ H (Wd.Le.refl w) r⟩
theorem ss_cons (h1 : SS M W X st s1) (h2 : SSs M W X rest s2) : SSs M W X (st :: rest) (sSeq s1 s2) := by
  obtain ⟨t, a1, a2⟩ := h1
  obtain ⟨u, b1, b2⟩ := h2
  refine ⟨_, pss_cons a1 b1, fun w fr env G σ H D r h => ?_⟩
  refine a2 w fr env G σ H _ r ?_
  unfold sSeq at h
  cases e : s1 env G with
  | nx env' G' =>
    rw [e] at h
    exact fun w' σ' H' l r' => b2 w' fr env' G' σ' H' D r' (PostS.up h l)
  | rt d G' => rw [e] at h; exact h
  | bk d G' => rw [e] at h; exact h
  | ct d G' => rw [e] at h; exact h
  | exc d G' => rw [e] at h; exact h
  | bad => rw [e] at h; exact h
theorem ss_one (h1 : SS M W X st s1) : SSs M W X [st] s1 := let ⟨t, a1, a2⟩ := h1; ⟨t, pss_one a1, a2⟩
/-- a list of the frame's own is frozen ahead of a block -/
theorem ss_freeze {i : Nat} {sts : List Stmt} (h : SSs M W X sts s1) : SSs M W X sts (sFreeze i s1) := by
  obtain ⟨t, a1, a2⟩ := h
  refine ⟨t, a1, fun w fr env G σ H D r h => ?_⟩
  unfold sFreeze at h
  cases e : env[i]? with
  | none => rw [e] at h; exact h.elim
  | some s =>
    rw [e] at h
    cases s with
    | un => exact h.elim
    | val d => exact h.elim
    | own xs =>
      obtain ⟨os, g, sl⟩ := r
      obtain ⟨p, vs, f1, f2, rfl, q1, q2, q3, q4⟩ := sl.getOwn e
      have g' : RG M w ((p, .lst vs) :: (f1 ++ f2 ++ fr)) G H := g.perm (by
        rw [List.append_assoc, List.cons_append, List.append_assoc]
        exact List.perm_middle)
      obtain ⟨l, g2⟩ := g'.freeze
      exact a2 _ fr _ G σ H D ⟨f1 ++ f2, g2, q4 _ _ l (.lst upd_same (q2.up l))⟩ (PostS.up h l)
theorem ss_pass : SS M W X (.Pass pos) sSkip := ⟨_, ps_pass, fun w fr env G σ H D r h => h w σ H (Wd.Le.refl w) r⟩
theorem ss_break : SS M W X (.Break pos) sBreak := ⟨_, ps_break, fun w fr env G σ H D r h => h w σ H (Wd.Le.refl w) r⟩
theorem ss_continue : SS M W X (.Continue pos) sCont := ⟨_, ps_continue, fun w fr env G σ H D r h => h w σ H (Wd.Le.refl w) r⟩
theorem ss_expr (ha : SE M W X a ma) (hs : swapsWith a none pos.line X.env = pure false) : SS M W X (.Expr a pos) (sDrop ma) := by
  obtain ⟨t, a1, a2⟩ := ha
  refine ⟨_, ps_expr a1 hs, fun w fr env G σ H D r h => ?_⟩
  exact a2 w fr env G σ H _ r ((PostS.bind h).imp fun d w1 G1 H1 l1 r1 h1 v dv => h1 w1 σ H1 (Wd.Le.refl w1) r1)
theorem ss_ret (ha : SE M W X a ma) : SS M W X (.Return (some a) pos) (sRet ma) := by
  obtain ⟨t, a1, a2⟩ := ha
  refine ⟨_, ps_ret a1, fun w fr env G σ H D r h => ?_⟩
  exact a2 w fr env G σ H _ r ((PostS.bind h).imp fun d w1 G1 H1 l1 r1 h1 v dv => h1 w1 v H1 (Wd.Le.refl w1) r1.rg dv)
theorem ss_retN : SS M W X (.Return none pos) sRetN := ⟨_, ps_retN, fun w fr env G σ H D r h => h w .non H (Wd.Le.refl w) r.rg .non⟩
theorem ss_if {xs ys : List Stmt} (hc : ST M W X c na) (ha : SSs M W X xs s1) (hb : SSs M W X ys s2) : SS M W X (.If c xs ys pos) (sIf na s1 s2) := by
  obtain ⟨tc, c1, c2⟩ := hc
  obtain ⟨t, a1, a2⟩ := ha
  obtain ⟨u, b1, b2⟩ := hb
  refine ⟨_, ps_if c1 a1 b1, fun w fr env G σ H D r h => ?_⟩
  refine c2 w fr env G σ H _ r ((PostS.bind h).imp fun x w1 G1 H1 l1 r1 h1 => ?_)
  cases x with
  | true => exact a2 w1 fr env G1 σ H1 D r1 h1
  | false => exact b2 w1 fr env G1 σ H1 D r1 h1
/-- code that is never come to -/
def sNever : MS := fun _ _ => .bad
theorem ss_never : SS M W X st sNever := ⟨_, ps_never, fun w fr env G σ H D r h => h⟩
theorem sss_never {sts : List Stmt} : SSs M W X sts sNever := ⟨_, pss_never, fun w fr env G σ H D r h => h⟩
theorem ss_set (g : GX M k X) {i : Nat} {x : Str} {pos' : Pos} (hi : X.N[i]? = some x) (hx : Loc X.env.scope x) (ha : SE M W X a ma) (hs : swapsWith a (some (.Name x pos')) pos.line X.env = pure false) (hf : X.fn x = true ∨ X.env.scope.names.lookup x = some .local) :
    SS M W X (.Assign [.Name x pos'] a pos) (sSet i ma) := by
  obtain ⟨t, a1, a2⟩ := ha
  refine ⟨_, ps_set g.nd hi hx a1 hs hf, fun w fr env G σ H D r h => ?_⟩
  exact a2 w fr env G σ H _ r ((PostS.bind h).imp fun d w1 G1 H1 l1 r1 h1 v dv => h1 w1 _ H1 (Wd.Le.refl w1) (r1.setVal i dv))
theorem ss_setOwn (g : GX M k X) {i : Nat} {x : Str} {pos' : Pos} {ml : ML} (hi : X.N[i]? = some x) (hx : Loc X.env.scope x) (ha : SF M W X a ml) (hs : swapsWith a (some (.Name x pos')) pos.line X.env = pure false) (hf : X.fn x = true ∨ X.env.scope.names.lookup x = some .local) :
    SS M W X (.Assign [.Name x pos'] a pos) (sSetOwn i ml) := by
  obtain ⟨t, a1, a2⟩ := ha
  refine ⟨_, ps_set g.nd hi hx a1 hs hf, fun w fr env G σ H D r h => ?_⟩
  refine a2 w fr env G σ H _ r ((PostS.bind h).imp fun xs w1 G1 H1 l1 r1 h1 vs p dvs hz hp => ?_)
  by_cases hl : i < env.length
  · rw [if_pos hl] at h1
    obtain ⟨os, g1, sl⟩ := r1
    obtain ⟨o1, o2, q1, q2, q3⟩ := sl.setOwn (a := p) dvs i hl
    refine h1 w1 _ _ (Wd.Le.refl w1) ⟨o2, ?_, q3⟩
    have g2 := (g1.less (q1.append (List.Sublist.refl fr))).newFr (o := .lst vs) hp
    exact g2.perm (q2.append_right fr)
  · rw [if_neg hl] at h1; exact h1.elim
theorem ss_aug (g : GX M k X) {i : Nat} {x : Str} {pos' : Pos} {op : Operator} (hi : X.N[i]? = some x) (hx : Loc X.env.scope x) (ha : SE M W X a ma) (ho : OpOk M W X (inplaceOp op) (binop op)) (hf : X.fn x = true ∨ X.env.scope.names.lookup x = some .local) :
    SS M W X (.AugAssign (.Name x pos') op a pos) (sAug i op ma) := by
  obtain ⟨t, a1, a2⟩ := ha
  obtain ⟨r, o1, o2⟩ := ho
  refine ⟨_, ps_aug g.nd hi hx a1 (ti := r) (fun pins s σ H x y v u Q I rx ry q => o1 pins s σ H x y v u Q I rx ry q) hf, fun w fr env G σ H D rs h => ?_⟩
  unfold sAug eLv at h
  cases e : env[i]? with
  | none => rw [e] at h; exact h.elim
  | some s =>
    rw [e] at h
    cases s with
    | un => exact h.elim
    | own xs => exact h.elim
    | val d =>
      obtain ⟨v, h1, h2⟩ := rs.get e
      refine ⟨v, h1, ?_⟩
      refine a2 w fr env G σ H _ rs ((PostS.bind (R.bindS_ok d G _ ▸ h)).imp fun y w1 G1 H1 l1 r1 h1 vy dy => ?_)
      exact o2 w1 fr env G1 σ H1 _ d y v vy r1 (h2.up l1) dy ((PostS.bind h1).imp fun z w2 G2 H2 l2 r2 h3 vz dz => h3 w2 _ H2 (Wd.Le.refl w2) (r2.setVal i dz))
theorem iop_add_ok (g : GX M k X) : OpOk M W X (inplaceOp .Add) (fun x y h => match x, y with | .int i, .int j => .ok (.int (i + j)) h | _, _ => .bad) := by
  refine ⟨_, iop_add, fun w fr env G σ H Q x y vx vy r hx hy h => ?_⟩
  cases hx <;> cases hy <;> try exact h.elim
  exact ⟨_, _, rfl, rfl, Post.here h r _ (.int _)⟩

/-! ### targets -/
abbrev MG := D → Env' → Option Env'
/-- the slots that may have changed: ts -/
def Ag (ts : List Nat) (σ σ' : L2.St) : Prop := σ'.length = σ.length ∧ ∀ i : Nat, i ∉ ts → σ'[i]? = σ[i]?
theorem Ag.refl (σ : L2.St) : Ag [] σ σ := ⟨rfl, fun _ _ => rfl⟩
theorem Ag.trans {ts us : List Nat} {a b c : L2.St} (x : Ag ts a b) (y : Ag us b c) : Ag (ts ++ us) a c :=
  ⟨y.1.trans x.1, fun i hi => (y.2 i (fun h => hi (List.mem_append_right _ h))).trans (x.2 i (fun h => hi (List.mem_append_left _ h)))⟩
theorem Ag.set {i : Nat} {v : Option V} (σ : L2.St) : Ag [i] σ (σ.set i v) := ⟨by simp, fun j hj => List.getElem?_set_ne (fun e => hj (by simp [e]))⟩
def PostG (M : Im) (fr : List (Addr × HO)) (w : Wd) (G : Gh) (σ : L2.St) (ts : List Nat) (Q : L2.St → Hp → Prop) : Option Env' → Prop
  | some env' => ∀ w' σ' H', w.Le w' → RS M w' fr env' G σ' H' → Ag ts σ σ' → Q σ' H'
  | none => False
theorem PostG.up {w w1 : Wd} {fr : List (Addr × HO)} {G : Gh} {σ : L2.St} {ts : List Nat} {Q : L2.St → Hp → Prop} {o : Option Env'} (h : PostG M fr w G σ ts Q o) (l : w.Le w1) : PostG M fr w1 G σ ts Q o := by
  cases o with
  | none => exact h
  | some e => exact fun w' σ' H' l' r' => h w' σ' H' (l.trans l') r'
def SG (M : Im) (X : Cx) (tg : Expr) (ts : List Nat) (m : MG) : Prop := ∃ t, PG X tg t ∧ ∀ w fr env G σ H Q d v, RS M w fr env G σ H → DV M w d v → PostG M fr w G σ ts Q (m d env) → t v σ H Q
abbrev MGs := List D → Env' → Option Env'
def SGs (M : Im) (X : Cx) (tgs : List Expr) (ts : List Nat) (m : MGs) : Prop := ∃ t, PGs X tgs t ∧ ∀ w fr env G σ H Q ds vs, RS M w fr env G σ H → DVs M w ds vs → PostG M fr w G σ ts Q (m ds env) → t vs σ H Q
def gNm (i : Nat) : MG := fun d env => some (env.set i (.val d))
def gsNil : MGs := fun ds env => match ds with | [] => some env | _ => none
def gsCons (a : MG) (b : MGs) : MGs := fun ds env => match ds with
  | [] => none
  | d :: ds => (a d env).bind fun env1 => b ds env1
def gTp (n : Nat) (b : MGs) : MG := fun d env => match d with
  | .tup xs => if xs.length = n then b xs env else none
  | _ => none
theorem sg_name (g : GX M k X) {i : Nat} {x : Str} (hi : X.N[i]? = some x) (hx : Loc X.env.scope x) (hf : X.fn x = true ∨ X.env.scope.names.lookup x = some .local) : SG M X (.Name x pos) [i] (gNm i) :=
  ⟨_, pg_name g.nd hi hx hf, fun w fr env G σ H Q d v r hd h => h w _ H (Wd.Le.refl w) (r.setVal i hd) (Ag.set σ)⟩
theorem sgs_nil : SGs M X [] [] gsNil := by
  refine ⟨_, pgs_nil, fun w fr env G σ H Q ds vs r hd h => ?_⟩
  cases hd with
  | nil => exact ⟨rfl, h w σ H (Wd.Le.refl w) r (Ag.refl σ)⟩
  | cons _ _ => exact h.elim
theorem sgs_cons {e : Expr} {es : List Expr} {m1 : MG} {m2 : MGs} {ts us : List Nat} (h1 : SG M X e ts m1) (h2 : SGs M X es us m2) (hs : (assignEach (e :: es) X.env).map (·.2) = assign e X.env :: (assignEach es X.env).map (·.2)) : SGs M X (e :: es) (ts ++ us) (gsCons m1 m2) := by
  obtain ⟨t, a1, a2⟩ := h1
  obtain ⟨u, b1, b2⟩ := h2
  refine ⟨_, pgs_cons a1 b1 hs, fun w fr env G σ H Q ds vs r hd h => ?_⟩
  cases hd with
  | nil => exact h.elim
  | cons hd hds =>
    rename_i d v ds vs
    refine ⟨v, vs, rfl, a2 w fr env G σ H _ d v r hd ?_⟩
    have h : PostG M fr w G σ (ts ++ us) Q ((m1 d env).bind fun env1 => m2 ds env1) := h
    cases e : m1 d env with
    | none => rw [e] at h; exact h.elim
    | some env1 =>
      rw [e] at h
      have h : PostG M fr w G σ (ts ++ us) Q (m2 ds env1) := h
      intro w' σ' H' l r' ag
      refine b2 w' fr env1 G σ' H' Q ds vs r' (hds.up l) ?_
      cases e2 : m2 ds env1 with
      | none => rw [e2] at h; exact h.elim
      | some env2 =>
        rw [e2] at h
        exact fun w2 σ2 H2 l2 r2 ag2 => h w2 σ2 H2 (l.trans l2) r2 (ag.trans ag2)
theorem sg_tup (g : GX M k X) {es : List Expr} {kk n : Nat} {m : MGs} {ts : List Nat} (h : SGs M X es ts m) (hn : (assignEach es X.env).length = n) (hst : (assignEach es X.env).findIdx? (·.1) = none) : SG M X (.Tuple es kk pos) ts (gTp n m) := by
  obtain ⟨t, a1, a2⟩ := h
  refine ⟨_, pg_tup g.calm a1 hn hst, fun w fr env G σ H Q d v r hd h => ?_⟩
  cases hd <;> try exact h.elim
  rename_i a vs xs hs hd
  by_cases hl : xs.length = n
  · have h : PostG M fr w G σ ts Q (if xs.length = n then m xs env else none) := h
    rw [if_pos hl] at h
    have hs' := SqT.mono r.cold hs
    rw [← g.K] at hs'
    exact ⟨a, vs, rfl, hs', by rw [← hd.length]; exact hl, a2 w fr env G σ H Q xs vs r hd h⟩
  · have h : PostG M fr w G σ ts Q (if xs.length = n then m xs env else none) := h
    rw [if_neg hl] at h; exact h.elim
def optS (o : Option Env') (g : Gh) : SR := match o with
  | some env => .nx env g
  | none => .bad
def sAsg (a : ME) (tg : MG) : MS := fun env g => (a env g).bindS fun d g1 => optS (tg d env) g1
theorem ss_asg {tg : Expr} {mg : MG} {ts : List Nat} (ha : SE M W X a ma) (hg : SG M X tg ts mg) (hs : swapsWithSole [tg] a pos.line X.env = pure false) (hw : swappedStores [tg] a X.env = pure none) (h1 : (assignEach [tg] X.env).map (·.2) = [assign tg X.env]) :
    SS M W X (.Assign [tg] a pos) (sAsg ma mg) := by
  obtain ⟨t, a1, a2⟩ := ha
  obtain ⟨u, b1, b2⟩ := hg
  refine ⟨_, ps_asg a1 b1 hs hw h1, fun w fr env G σ H D r h => ?_⟩
  refine a2 w fr env G σ H _ r ((PostS.bind h).imp fun d w1 G1 H1 l1 r1 h1 v dv => ?_)
  refine b2 w1 fr env G1 σ H1 _ d v r1 dv ?_
  cases e : mg d env with
  | none => rw [e] at h1; exact h1.elim
  | some env1 => rw [e] at h1; exact fun w' σ' H' l r' _ => h1 w' σ' H' l r'
/-- a, b = x, y with plain local names -/
def sPar (i j : Nat) (l : ML) : MS := fun env g => (l env g).bindS fun ds g1 => match ds with
  | [x, y] => .nx ((env.set i (.val x)).set j (.val y)) g1
  | _ => .bad
theorem ss_par (g : GX M k X) {i j : Nat} {x y : Str} {ml : ML} {px py pt : Pos} {kt k2 pt2} (hi : X.N[i]? = some x) (hj : X.N[j]? = some y) (hij : i ≠ j)
    (hx : X.env.scope.names.lookup x = some .local) (hy : X.env.scope.names.lookup y = some .local) (ha : SA M W X [a, b] ml)
    (hw : swappedStores [.Tuple [.Name x px, .Name y py] kt pt] (.Tuple [a, b] k2 pt2) X.env = pure (some [x, y]))
    (hs : swapsWithSole [.Tuple [.Name x px, .Name y py] kt pt] (.Tuple [a, b] k2 pt2) pos.line X.env = pure false) :
    SS M W X (.Assign [.Tuple [.Name x px, .Name y py] kt pt] (.Tuple [a, b] k2 pt2) pos) (sPar i j ml) := by
  obtain ⟨t, a1, a2⟩ := ha
  refine ⟨_, ps_par g.calm g.nd hi hj hij hx hy a1 hw hs, fun w fr env G σ H D r h => ?_⟩
  refine a2 w fr env G σ H _ r ((PostS.bind h).imp fun ds w1 G1 H1 l1 r1 h1 vs dvs => ?_)
  cases dvs with
  | nil => exact h1.elim
  | cons p q =>
    cases q with
    | nil => exact h1.elim
    | cons p' q' =>
      cases q' with
      | cons _ _ => exact h1.elim
      | nil => exact ⟨_, _, rfl, h1 w1 _ H1 (Wd.Le.refl w1) ((r1.setVal i p).setVal j p')⟩

/-! ### while -/
/-- at most n turns -/
def wh (c : MT) (b : MS) : Nat → MS
  | 0 => fun _ _ => .bad
  | n + 1 => fun env g => (c env g).bindS fun k g1 => if k then (match b env g1 with
      | .nx env' g2 => wh c b n env' g2
      | .ct env' g2 => wh c b n env' g2
      | .bk env' g2 => .nx env' g2
      | r => r) else .nx env g1
open Classical in
noncomputable def sWhile (c : MT) (b : MS) : MS := fun env g => if h : ∃ n, wh c b n env g ≠ .bad then wh c b (Classical.choose h) env g else .bad
theorem wh_mono {c : MT} {b : MS} : ∀ {n m : Nat} {env : Env'} {g : Gh}, n ≤ m → wh c b n env g ≠ .bad → wh c b m env g = wh c b n env g
  | 0, _, _, _, _, h => absurd rfl h
  | n + 1, 0, _, _, hl, _ => by omega
  | n + 1, m + 1, env, g, hl, h => by
    unfold wh at h ⊢
    cases e : c env g with
    | bad => rfl
    | exc x g1 => rfl
    | ok k g1 =>
      rw [e] at h
      cases k with
      | false => rfl
      | true =>
        simp only [R.bindS_ok, if_true] at h ⊢
        cases e2 : b env g1 with
        | nx env' g2 => rw [e2] at h; exact wh_mono (by omega) h
        | ct env' g2 => rw [e2] at h; exact wh_mono (by omega) h
        | bk env' g2 => rfl
        | rt d g2 => rfl
        | exc d g2 => rfl
        | bad => rfl
theorem sWhile_of {c : MT} {b : MS} {n : Nat} {env : Env'} {g : Gh} (h : wh c b n env g ≠ .bad) : sWhile c b env g = wh c b n env g := by
  have hx : ∃ n, wh c b n env g ≠ .bad := ⟨n, h⟩
  unfold sWhile
  rw [dif_pos hx]
  by_cases hl : n ≤ Classical.choose hx
  · exact wh_mono hl h
  · exact (wh_mono (by omega) (Classical.choose_spec hx)).symm
theorem sWhile_eq (c : MT) (b : MS) (env : Env') (g : Gh) : sWhile c b env g = (c env g).bindS fun k g1 => if k then (match b env g1 with
      | .nx env' g2 => sWhile c b env' g2
      | .ct env' g2 => sWhile c b env' g2
      | .bk env' g2 => .nx env' g2
      | r => r) else .nx env g1 := by
  have key : ∀ (env' : Env') (g' : Gh) (n : Nat), wh c b n env' g' = .bad → (∀ m, wh c b m env' g' = .bad) → sWhile c b env' g' = .bad := fun env' g' n _ h => by
    unfold sWhile
    rw [dif_neg]
    rintro ⟨m, hm⟩
    exact hm (h m)
  have one : ∀ n, wh c b (n + 1) env g = (c env g).bindS fun k g1 => if k then (match b env g1 with
      | .nx env' g2 => wh c b n env' g2
      | .ct env' g2 => wh c b n env' g2
      | .bk env' g2 => .nx env' g2
      | r => r) else .nx env g1 := fun n => rfl
  by_cases hx : ∃ n, wh c b n env g ≠ .bad
  · obtain ⟨n, hn⟩ := hx
    cases n with
    | zero => exact absurd rfl hn
    | succ n =>
      rw [sWhile_of hn, one]
      rw [one] at hn
      cases e : c env g with
      | bad => rfl
      | exc x g1 => rfl
      | ok k g1 =>
        rw [e] at hn
        cases k with
        | false => rfl
        | true =>
          simp only [R.bindS_ok, if_true] at hn ⊢
          cases e2 : b env g1 with
          | nx env' g2 => rw [e2] at hn; exact (sWhile_of hn).symm
          | ct env' g2 => rw [e2] at hn; exact (sWhile_of hn).symm
          | bk env' g2 => rfl
          | rt d g2 => rfl
          | exc d g2 => rfl
          | bad => rfl
  · have all : ∀ n, wh c b n env g = .bad := fun n => Classical.byContradiction fun q => hx ⟨n, q⟩
    rw [key env g 0 rfl all]
    cases e : c env g with
    | bad => rfl
    | exc x g1 => have := all 1; rw [one, e] at this; cases this
    | ok k g1 =>
      cases k with
      | false => have := all 1; rw [one, e] at this; cases this
      | true =>
        simp only [R.bindS_ok, if_true]
        cases e2 : b env g1 with
        | nx env' g2 => exact (key env' g2 0 rfl fun m => by have := all (m + 1); rw [one, e] at this; simpa only [R.bindS_ok, if_true, e2] using this).symm
        | ct env' g2 => exact (key env' g2 0 rfl fun m => by have := all (m + 1); rw [one, e] at this; simpa only [R.bindS_ok, if_true, e2] using this).symm
        | bk env' g2 => have := all 1; rw [one, e] at this; simp only [R.bindS_ok, if_true, e2] at this; cases this
        | rt d g2 => have := all 1; rw [one, e] at this; simp only [R.bindS_ok, if_true, e2] at this; cases this
        | exc d g2 => have := all 1; rw [one, e] at this; simp only [R.bindS_ok, if_true, e2] at this; cases this
        | bad => rfl
theorem ss_while {body : List Stmt} (hp : PassesOwn (model X.prog X.w) X.A X.env X.xe) (hc : ST M W X c na) (hb : SSs M W X body s1) : SS M W X (.While c body [] pos) (sWhile na s1) := by
  obtain ⟨tc, c1, c2⟩ := hc
  obtain ⟨t, b1, b2⟩ := hb
  refine ⟨_, ps_while hp c1 b1, fun w fr env G σ H D r h => ?_⟩
  have hx : ∃ n, PostS M W fr w D (wh na s1 n env G) := by
    unfold sWhile at h
    by_cases hx : ∃ n, wh na s1 n env G ≠ .bad
    · rw [dif_pos hx] at h; exact ⟨_, h⟩
    · rw [dif_neg hx] at h; exact h.elim
  obtain ⟨n, hn⟩ := hx
  refine ⟨fun m σ' H' => ∃ w' env' G', RS M w' fr env' G' σ' H' ∧ PostS M W fr w' D (wh na s1 m env' G'), ⟨n, w, env, G, r, hn⟩, ?_⟩
  rintro m σ' H' ⟨w', env', G', r', h'⟩
  cases m with
  | zero => exact h'.elim
  | succ m =>
    refine c2 w' fr env' G' σ' H' _ r' ((PostS.bind h').imp fun x w1 G1 H1 l1 r1 h1 => ?_)
    cases x with
    | false => exact h1 w1 σ' H1 (Wd.Le.refl w1) r1
    | true =>
      show ∃ N : L2.St → Hp → Prop, _
      refine ⟨fun σ2 H2 => ∃ w2 env2 G2, RS M w2 fr env2 G2 σ2 H2 ∧ PostS M W fr w2 D (wh na s1 m env2 G2), fun σ2 H2 q => ⟨m, Nat.lt_succ_self _, q⟩, ?_⟩
      refine b2 w1 fr env' G1 σ' H1 _ r1 ?_
      simp only [if_true] at h1
      cases e : s1 env' G1 with
      | nx env2 G2 => rw [e] at h1; exact fun w2 σ2 H2 l2 r2 => ⟨w2, env2, G2, r2, PostS.up h1 l2⟩
      | ct env2 G2 => rw [e] at h1; exact fun w2 σ2 H2 l2 r2 => ⟨w2, env2, G2, r2, PostS.up h1 l2⟩
      | bk env2 G2 => rw [e] at h1; exact h1
      | rt d G2 => rw [e] at h1; exact h1
      | exc d G2 => rw [e] at h1; exact h1
      | bad => rw [e] at h1; exact h1

/-! ### for -/
abbrev Gd := Option (Nat × List D)
def gdOk : Gd → Gh → Prop
  | none, _ => True
  | some (n, xs), g => g[n]? = some (.lst xs)
abbrev MI := Env' → Gh → R (List D × Gd)
/-- what an iterator J yields, while what it walks stands: ds -/
structure ItOk (M : Im) (w0 : Wd) (gd : Gd) (J : It) (ds : List D) : Prop where
  go : ∀ i w fr env G σ H, w0.Le w → RS M w fr env G σ H → gdOk gd G → i < ds.length → J.go i H
  yld : ∀ i w fr env G σ H x H' d, w0.Le w → RS M w fr env G σ H → gdOk gd G → ds[i]? = some d → J.yld i H x H' → ∃ w', w.Le w' ∧ RS M w' fr env G σ H' ∧ DV M w' d x
  stop : ∀ w fr env G σ H, w0.Le w → RS M w fr env G σ H → gdOk gd G → J.stop ds.length H
def SI (M : Im) (W : XW) (X : Cx) (tg it : Expr) (m : MI) : Prop := ∃ wi, PI X tg it wi ∧ ∀ w fr env G σ H Q, RS M w fr env G σ H →
  Post M W fr env σ w (fun p w' G' H' => ∀ J, ItOk M w' p.2 J p.1 → gdOk p.2 G' → Q J H') (m env G) → wi σ H Q
open Classical in
noncomputable def forL (gd : Gd) (tg : MG) (b : MS) : List D → MS
  | [] => fun env g => if gdOk gd g then .nx env g else .bad
  | d :: ds => fun env g => if gdOk gd g then (match tg d env with
      | none => .bad
      | some env1 => match b env1 g with
        | .nx env2 g2 => forL gd tg b ds env2 g2
        | .ct env2 g2 => forL gd tg b ds env2 g2
        | .bk env2 g2 => .nx env2 g2
        | r => r) else .bad
noncomputable def sFor (it : MI) (tg : MG) (b : MS) : MS := fun env g => (it env g).bindS fun p g1 => forL p.2 tg b p.1 env g1
theorem ss_for (g : GX M k X) {tg it : Expr} {body : List Stmt} {mi : MI} {mg : MG} {ts : List Nat} (hp : PassesOwn (model X.prog X.w) X.A X.env X.xe) (hi : SI M W X tg it mi) (hg : SG M X tg ts mg) (hb : SSs M W X body s1) (hs : ∀ x, foldedSetIterable it X.env x = pure x) :
    SS M W X (.For tg it body [] pos) (sFor mi mg s1) := by
  obtain ⟨wi, i1, i2⟩ := hi
  obtain ⟨tg', g1, g2⟩ := hg
  obtain ⟨t, b1, b2⟩ := hb
  refine ⟨_, ps_for hp g.calm i1 g1 b1 hs, fun w fr env G σ H D r h => ?_⟩
  refine i2 w fr env G σ H _ r ((PostS.bind h).imp fun p w1 G1 H1 l1 r1 h1 J jo gok => ?_)
  obtain ⟨ds, gd⟩ := p
  refine ⟨fun i m σ' H' => ∃ w' env' G', w1.Le w' ∧ RS M w' fr env' G' σ' H' ∧ m = ds.length - i ∧ i ≤ ds.length ∧ PostS M W fr w' D (forL gd mg s1 (ds.drop i) env' G'), ⟨_, w1, env, G1, Wd.Le.refl w1, r1, rfl, Nat.zero_le _, h1⟩, ?_⟩
  rintro i m σ' H' ⟨w', env', G', l', r', rfl, hi, h'⟩
  have hgd : gdOk gd G' := by
    by_cases q : gdOk gd G'
    · exact q
    · exfalso
      cases e : ds.drop i with
      | nil => rw [e] at h'; unfold forL at h'; rw [if_neg q] at h'; exact h'
      | cons d r => rw [e] at h'; unfold forL at h'; rw [if_neg q] at h'; exact h'
  by_cases hlt : i < ds.length
  · rw [List.drop_eq_getElem_cons hlt] at h'
    unfold forL at h'
    rw [if_pos hgd] at h'
    refine .inr ⟨jo.go i w' fr env' G' σ' H' l' r' hgd hlt, fun σ2 H2 => ∃ w2 env2 G2, w1.Le w2 ∧ RS M w2 fr env2 G2 σ2 H2 ∧ PostS M W fr w2 D (forL gd mg s1 (ds.drop (i + 1)) env2 G2),
      fun σ2 H2 ⟨w2, env2, G2, q1, q2, q3⟩ => ⟨ds.length - (i + 1), by omega, w2, env2, G2, q1, q2, rfl, hlt, q3⟩, fun x H2 hy => ?_⟩
    obtain ⟨w2, l2, r2, dv⟩ := jo.yld i w' fr env' G' σ' H' x H2 ds[i] l' r' hgd (List.getElem?_eq_getElem hlt) hy
    refine g2 w2 fr env' G' σ' H2 _ ds[i] x r2 dv ?_
    cases e : mg ds[i] env' with
    | none => rw [e] at h'; exact h'.elim
    | some env1 =>
      rw [e] at h'
      intro w3 σ3 H3 l3 r3 _
      refine b2 w3 fr env1 G' σ3 H3 _ r3 ?_
      simp only at h'
      have l13 := (l'.trans l2).trans l3
      have lw := l2.trans l3
      cases e2 : s1 env1 G' with
      | nx env2 G2 => rw [e2] at h'; exact fun w4 σ4 H4 l4 r4 => ⟨w4, env2, G2, l13.trans l4, r4, PostS.up h' (lw.trans l4)⟩
      | ct env2 G2 => rw [e2] at h'; exact fun w4 σ4 H4 l4 r4 => ⟨w4, env2, G2, l13.trans l4, r4, PostS.up h' (lw.trans l4)⟩
      | bk env2 G2 => rw [e2] at h'; exact PostS.up (r := .nx env2 G2) h' lw
      | rt d G2 => rw [e2] at h'; exact PostS.up (r := .rt d G2) h' lw
      | exc d G2 => rw [e2] at h'; exact PostS.up (r := .exc d G2) h' lw
      | bad => rw [e2] at h'; exact h'
  · have e : i = ds.length := by omega
    subst e
    rw [List.drop_length] at h'
    unfold forL at h'
    rw [if_pos hgd] at h'
    exact .inl ⟨jo.stop w' fr env' G' σ' H' l' r' hgd, h' w' σ' H' (Wd.Le.refl w') r'⟩
end
end GL
/-! GL part 7: what a for walks. -/
namespace GL
open PySem L2
section
variable {M : Im} {W : XW} {X : Cx} {k : Nat} {tg a b c : Expr} {ma mb : ME} {pos p : Pos}
theorem PI.or {wi wi' : TI} (h : PI X tg a wi) (h' : PI X tg a wi') : PI X tg a (fun σ H R => wi σ H R ∨ wi' σ H R) := by
  refine ⟨fun pins s σ H R I q => ?_⟩
  rcases q with q | q
  · exact h.run pins s σ H R I q
  · exact h'.run pins s σ H R I q
def itemsD : D → Gh → R (List D × Gd)
  | .lst xs, g => .ok (xs, none) g
  | .loc n, g => match g[n]? with
    | some (.lst xs) => .ok (xs, some (n, xs)) g
    | _ => .bad
  | .tup xs, g => .ok (xs, none) g
  | .str x, g => .ok (x.cps.toList.map fun c => .str ⟨#[c]⟩, none) g
  | .arr ns, g => .ok (ns.map .int, none) g
  | _, _ => .bad
def iV (a : ME) : MI := fun env g => (a env g).bind itemsD
theorem itok_list {w : Wd} {xs : List D} {vs : List V} {q : Addr} (hc : w.C q = some (.lst vs)) (hd : DVs M w xs vs) : ItOk M w none (Itl M.K q) xs where
  go := fun i w' fr env G σ H l r _ hi => by
    have h1 := r.cold _ _ (l.c _ _ hc)
    have hi' : i < vs.length := by rw [← hd.length]; exact hi
    exact ⟨vs, vs[i], .inl (.inl h1), List.getElem?_eq_getElem hi'⟩
  yld := fun i w' fr env G σ H x H' d l r _ hi y => by
    obtain ⟨rfl, y⟩ := y
    have h1 := r.cold _ _ (l.c _ _ hc)
    obtain ⟨v, h2, h3⟩ := hd.get hi
    have := y vs (.inl (.inl h1))
    rw [h2] at this; cases this
    exact ⟨w', Wd.Le.refl _, r, h3.up l⟩
  stop := fun w' fr env G σ H l r _ => ⟨vs, .inl (.inl (r.cold _ _ (l.c _ _ hc))), by rw [hd.length]; exact Nat.le_refl _⟩
theorem itok_tup {w : Wd} {xs : List D} {vs : List V} {q : Addr} (hc : SqT M.K w.C q vs) (hd : DVs M w xs vs) : ItOk M w none (Itt M.K q) xs where
  go := fun i w' fr env G σ H l r _ hi => by
    have h1 := SqT.mono (fun a o e => r.cold _ _ (l.c _ _ e)) hc
    have hi' : i < vs.length := by rw [← hd.length]; exact hi
    exact ⟨vs, vs[i], h1, List.getElem?_eq_getElem hi'⟩
  yld := fun i w' fr env G σ H x H' d l r _ hi y => by
    obtain ⟨rfl, y⟩ := y
    have h1 := SqT.mono (fun a o e => r.cold _ _ (l.c _ _ e)) hc
    obtain ⟨v, h2, h3⟩ := hd.get hi
    have := y vs h1
    rw [h2] at this; cases this
    exact ⟨w', Wd.Le.refl _, r, h3.up l⟩
  stop := fun w' fr env G σ H l r _ => ⟨vs, SqT.mono (fun a o e => r.cold _ _ (l.c _ _ e)) hc, by rw [hd.length]; exact Nat.le_refl _⟩
theorem itok_arr {w : Wd} {ns : List Int} {q : Addr} (hc : SqL M.K w.C q (ns.map V.int)) : ItOk M w none (Itl M.K q) (ns.map D.int) where
  go := fun i w' fr env G σ H l r _ hi => by
    have h1 := SqL.mono (fun a o e => r.cold _ _ (l.c _ _ e)) hc
    have hi' : i < (ns.map V.int).length := by simpa using hi
    exact ⟨_, _, h1, List.getElem?_eq_getElem hi'⟩
  yld := fun i w' fr env G σ H x H' d l r _ hi y => by
    obtain ⟨rfl, y⟩ := y
    have h1 := SqL.mono (fun a o e => r.cold _ _ (l.c _ _ e)) hc
    obtain ⟨v, h2, h3⟩ := (DVs.ints (M := M) (w := w) (ns := ns)).get hi
    have := y _ h1
    rw [h2] at this; cases this
    exact ⟨w', Wd.Le.refl _, r, h3.up l⟩
  stop := fun w' fr env G σ H l r _ => ⟨_, SqL.mono (fun a o e => r.cold _ _ (l.c _ _ e)) hc, by simp⟩
theorem itok_loc {w : Wd} {n : Nat} {xs : List D} {q : Addr} (hn : w.ρ[n]? = some q) : ItOk M w (some (n, xs)) (Itl M.K q) xs := by
  have key : ∀ w' fr env G σ H, w.Le w' → RS M w' fr env G σ H → gdOk (some (n, xs)) G → ∃ vs, H q = some (.lst vs) ∧ DVs M w' xs vs := fun w' fr env G σ H l r hg => by
    obtain ⟨a, ho, h1, h2, h3⟩ := r.obj (show G[n]? = some (.lst xs) from hg)
    rw [l.r _ _ hn] at h1; cases h1
    cases h3 with
    | lst h3 => exact ⟨_, h2, h3⟩
  refine ⟨fun i w' fr env G σ H l r hg hi => ?_, fun i w' fr env G σ H x H' d l r hg hi y => ?_, fun w' fr env G σ H l r hg => ?_⟩
  · obtain ⟨vs, h1, hd⟩ := key _ _ _ _ _ _ l r hg
    have hi' : i < vs.length := by rw [← hd.length]; exact hi
    exact ⟨vs, vs[i], .inl (.inl h1), List.getElem?_eq_getElem hi'⟩
  · obtain ⟨rfl, y⟩ := y
    obtain ⟨vs, h1, hd⟩ := key _ _ _ _ _ _ l r hg
    obtain ⟨v, h2, h3⟩ := hd.get hi
    have := y vs (.inl (.inl h1))
    rw [h2] at this; cases this
    exact ⟨w', Wd.Le.refl _, r, h3⟩
  · obtain ⟨vs, h1, hd⟩ := key _ _ _ _ _ _ l r hg
    exact ⟨vs, .inl (.inl h1), by rw [hd.length]; exact Nat.le_refl _⟩
theorem itok_str {w : Wd} {x : Str} : ItOk M w none (Its x) (x.cps.toList.map fun c => D.str ⟨#[c]⟩) where
  go := fun i w' fr env G σ H l r _ hi => by
    show i < x.cps.size
    simpa using hi
  yld := fun i w' fr env G σ H v H' d l r _ hi y => by
    obtain ⟨rfl, c, h1, rfl⟩ := y
    rw [List.getElem?_map, Array.getElem?_toList, h1] at hi
    cases hi
    exact ⟨w', Wd.Le.refl _, r, .str _⟩
  stop := fun w' fr env G σ H l r _ => by simp [Its]
def rangeD (lo : Int) (n : Nat) : List D := (List.range n).map fun (i : Nat) => D.int (lo + i)
theorem itok_range {w : Wd} {lo : Int} {n : Nat} : ItOk M w none (Itr lo n) (rangeD lo n) where
  go := fun i w' fr env G σ H l r _ hi => by
    show i < n
    simpa [rangeD] using hi
  yld := fun i w' fr env G σ H v H' d l r _ hi y => by
    obtain ⟨rfl, rfl⟩ := y
    unfold rangeD at hi
    rw [List.getElem?_map] at hi
    cases e : (List.range n)[i]? with
    | none => rw [e] at hi; cases hi
    | some j =>
      rw [e] at hi
      cases hi
      obtain ⟨h1, h2⟩ := List.getElem?_eq_some_iff.mp e
      simp at h2
      subst h2
      exact ⟨w', Wd.Le.refl _, r, .int _⟩
  stop := fun w' fr env G σ H l r _ => by simp [Itr, rangeD]

theorem si_val (g : GX M k X) (ha : SE M W X a ma) : SI M W X tg a (iV ma) := by
  obtain ⟨t, a1, a2⟩ := ha
  refine ⟨_, PI.or (pi_list a1) (PI.or (pi_tup a1) (pi_str a1)), fun w fr env G σ H Q r h => ?_⟩
  have h := Post.bind h
  have hK := g.K
  -- what the value is tells which way; each way's reading is told by the same evaluation
  cases e : ma env G with
  | bad => rw [e] at h; exact h.elim
  | exc x G' =>
    rw [e] at h
    exact .inl (a2 w fr env G σ H _ r (by rw [e]; exact h))
  | ok d G1 =>
    rw [e] at h
    cases d with
    | non =>
      refine .inl (a2 w fr env G σ H _ r ?_)
      rw [e]
      exact fun w' H' l r' v dv => (h w' H' l r').elim
    | bl b =>
      refine .inl (a2 w fr env G σ H _ r ?_)
      rw [e]
      exact fun w' H' l r' v dv => (h w' H' l r').elim
    | int b =>
      refine .inl (a2 w fr env G σ H _ r ?_)
      rw [e]
      exact fun w' H' l r' v dv => (h w' H' l r').elim
    | fn b =>
      refine .inl (a2 w fr env G σ H _ r ?_)
      rw [e]
      exact fun w' H' l r' v dv => (h w' H' l r').elim
    | lst xs =>
      refine .inl (a2 w fr env G σ H _ r ?_)
      rw [e]
      intro w' H' l r' v dv
      cases dv with
      | lst h1 h2 =>
        exact ⟨_, rfl, ⟨_, .inl (.inl (r'.cold _ _ h1))⟩, Post.here (h w' H' l r') r' _ (by rw [hK]; exact itok_list h1 h2) trivial⟩
    | arr ns =>
      refine .inl (a2 w fr env G σ H _ r ?_)
      rw [e]
      intro w' H' l r' v dv
      cases dv with
      | arr h1 =>
        have h2 := SqL.mono r'.cold h1
        rw [← hK] at h2
        exact ⟨_, rfl, ⟨_, h2⟩, Post.here (h w' H' l r') r' _ (by rw [hK]; exact itok_arr h1) trivial⟩
    | tup xs =>
      refine .inr (.inl (a2 w fr env G σ H _ r ?_))
      rw [e]
      intro w' H' l r' v dv
      cases dv with
      | tup h1 h2 =>
        have h3 := SqT.mono r'.cold h1
        rw [← hK] at h3
        exact ⟨_, rfl, ⟨_, h3⟩, Post.here (h w' H' l r') r' _ (by rw [hK]; exact itok_tup h1 h2) trivial⟩
    | str x =>
      refine .inr (.inr (a2 w fr env G σ H _ r ?_))
      rw [e]
      intro w' H' l r' v dv
      cases dv
      exact ⟨_, rfl, Post.here (h w' H' l r') r' _ itok_str trivial⟩
    | loc n =>
      refine .inl (a2 w fr env G σ H _ r ?_)
      rw [e]
      intro w' H' l r' v dv
      cases dv with
      | loc h1 =>
        have h2 := h w' H' l r'
        simp only [itemsD] at h2
        cases eo : G1[n]? with
        | none => rw [eo] at h2; exact h2.elim
        | some o =>
          rw [eo] at h2
          cases o with
          | ins c fs => exact h2.elim
          | lst xs =>
            obtain ⟨q, ho, q1, q2, q3⟩ := r'.obj eo
            rw [h1] at q1; cases q1
            cases q3 with
            | lst q3 => exact ⟨_, rfl, ⟨_, .inl (.inl q2)⟩, Post.here h2 r' _ (by rw [hK]; exact itok_loc h1) eo⟩
/-- range(e), range(e, e') -/
def RngOk (i : Int) : Prop := -(2 ^ 62) ≤ i ∧ i < 2 ^ 62
noncomputable def rngOk (i : Int) : Bool := tru (RngOk i)
noncomputable def iRange1 (a : ME) : MI := fun env g => (a env g).bind fun x g1 => match x with
  | .int j => if rngOk j then .ok (rangeD 0 j.toNat, none) g1 else .bad
  | _ => .bad
noncomputable def iRange2 (a b : ME) : MI := fun env g => (a env g).bind fun x g1 => (b env g1).bind fun y g2 => match x, y with
  | .int i, .int j => if rngOk i && rngOk j then .ok (rangeD i (j - i).toNat, none) g2 else .bad
  | _, _ => .bad
theorem si_range1 (g : GX M k X) (hg : Gl X "range") (hm : M.mg "range" = none) (ha : SE M W X a ma) (hs : starEach [a] X.env = [(false, eval a X.env)]) : SI M W X tg (.Call (.Name "range" p) [a] [] pos) (iRange1 ma) := by
  obtain ⟨t, a1, a2⟩ := ha
  refine ⟨_, pi_range1 hg (by rw [g.mg]; exact hm) (pa_cons a1 pa_nil hs) hs, fun w fr env G σ H Q r h => ?_⟩
  refine a2 w fr env G σ H _ r ((Post.bind h).imp fun x w1 G1 H1 l1 r1 h1 vx dx => ?_)
  cases dx <;> try exact h1.elim
  rename_i j
  by_cases hj : rngOk j = true
  · simp only [hj, if_true] at h1
    simp only [rngOk, RngOk, tru_iff, Bool.and_eq_true] at hj
    exact ⟨j, rfl, hj.1, hj.2, Post.here h1 r1 _ itok_range trivial⟩
  · simp only [hj, if_false] at h1; exact h1.elim
theorem si_range2 (g : GX M k X) (hg : Gl X "range") (hm : M.mg "range" = none) (ha : SE M W X a ma) (hb : SE M W X b mb) (hs : starEach [a, b] X.env = [(false, eval a X.env), (false, eval b X.env)]) (hs2 : starEach [b] X.env = [(false, eval b X.env)]) : SI M W X tg (.Call (.Name "range" p) [a, b] [] pos) (iRange2 ma mb) := by
  obtain ⟨t, a1, a2⟩ := ha
  obtain ⟨u, b1, b2⟩ := hb
  refine ⟨_, pi_range2 hg (by rw [g.mg]; exact hm) (pa_cons a1 (pa_cons b1 pa_nil hs2) (by rw [hs, hs2])) hs hs2, fun w fr env G σ H Q r h => ?_⟩
  refine a2 w fr env G σ H _ r ((Post.bind h).imp fun x w1 G1 H1 l1 r1 h1 vx dx => ?_)
  refine b2 w1 fr env G1 σ H1 _ r1 ((Post.bind h1).imp fun y w2 G2 H2 l2 r2 h2 vy dy => ?_)
  cases dx <;> cases dy <;> try exact h2.elim
  rename_i i j
  by_cases hj : (rngOk i && rngOk j) = true
  · simp only [hj, if_true] at h2
    simp only [rngOk, RngOk, tru_iff, Bool.and_eq_true] at hj
    exact ⟨i, j, rfl, ⟨hj.1.1, hj.1.2, hj.2.1, hj.2.2⟩, Post.here h2 r2 _ itok_range trivial⟩
  · simp only [hj, if_false] at h2; exact h2.elim
end
end GL
/-! GL part 8: list comprehensions. -/
namespace GL
open PySem L2
abbrev W0 : XW := fun _ _ _ _ => False
/-! ### readings told by the clean meaning alone -/
def tOf (M : Im) (W : XW) (m : ME) : TE := fun σ H Q => ∃ w fr env G, RS M w fr env G σ H ∧ Post M W fr env σ w (PE' M Q) (m env G)
def ttOf (M : Im) (W : XW) (m : MT) : TT := fun σ H Q => ∃ w fr env G, RS M w fr env G σ H ∧ Post M W fr env σ w (PT' Q) (m env G)
def gOf (M : Im) (ts : List Nat) (m : MG) : TG := fun v σ H Q => ∃ w fr env G d, RS M w fr env G σ H ∧ DV M w d v ∧ PostG M fr w G σ ts Q (m d env)
section
variable {M : Im} {W : XW} {X : Cx} {k : Nat}
theorem SE.pe {e : Expr} {m : ME} (h : SE M W X e m) : PE X e (tOf M W m) := by
  obtain ⟨t, h1, h2⟩ := h
  exact ⟨fun pins s σ H Q I ⟨w, fr, env, G, r, p⟩ => h1.run pins s σ H Q I (h2 w fr env G σ H Q r p)⟩
theorem ST.pt {e : Expr} {m : MT} (h : ST M W X e m) : PT X e (ttOf M W m) := by
  obtain ⟨t, h1, h2⟩ := h
  exact ⟨fun pins s σ H Q I ⟨w, fr, env, G, r, p⟩ => h1.run pins s σ H Q I (h2 w fr env G σ H Q r p)⟩
theorem SG.pg {e : Expr} {ts : List Nat} {m : MG} (h : SG M X e ts m) : PG X e (gOf M ts m) := by
  obtain ⟨t, h1, h2⟩ := h
  exact ⟨fun pins s σ H v u Q I rv ⟨w, fr, env, G, d, r, dv, p⟩ => h1.run pins s σ H v u Q I rv (h2 w fr env G σ H Q d v r dv p)⟩
/-- a clause's tests -/
def STs (M : Im) (W : XW) (X : Cx) (ifs : List Expr) (m : MT) : Prop := PTs X ifs (ttOf M W m)
def tTrue : MT := fun _ g => .ok true g
theorem sts_nil : STs M W X [] tTrue := ⟨fun pins s σ H Q I ⟨w, fr, env, G, r, p⟩ => (pts_nil (X := X)).run pins s σ H Q I (Post.here (P := PT' Q) (a := true) p r)⟩
theorem sts_one {c : Expr} {m : MT} (h : ST M W X c m) : STs M W X [c] m := pts_one h.pt
end

def hideS : Sl → Sl
  | .own _ => .un
  | s => s
def wipeE (env : Env') : List Nat → Env'
  | [] => env
  | v :: vs => (wipeE env vs).set v .un
/-- the slots within a comprehension's block -/
def blkE (env : Env') (vs : List Nat) : Env' := wipeE (env.map hideS) vs
section
variable {M : Im} {w : Wd}
theorem SlR.hide : ∀ {os : List (Addr × HO)} {env : Env'} {σ : L2.St}, SlR M w os env σ → SlR M w [] (env.map hideS) σ
  | _, _, _, .nil => .nil
  | _, _, _, .un b => .un (SlR.hide b)
  | _, _, _, .val a b => .val a (SlR.hide b)
  | _, _, _, .own a b => .un (SlR.hide b)
theorem SlR.wipe {env : Env'} {σ : L2.St} (h : SlR M w [] env σ) : ∀ vs : List Nat, SlR M w [] (wipeE env vs) (L2.wipe σ vs)
  | [] => h
  | v :: vs => by
    unfold wipeE L2.wipe
    obtain ⟨os, h1, h2⟩ := SlR.wipe1 (o := none) v (SlR.wipe h vs)
    cases h1
    exact h2
end
theorem wipe_ag {σ σ' : L2.St} : ∀ (vs : List Nat), Ag vs σ σ' → L2.wipe σ' vs = L2.wipe σ vs := by
  have look : ∀ (σ : L2.St) (vs : List Nat) (i : Nat), (L2.wipe σ vs)[i]? = if i ∈ vs ∧ i < σ.length then some none else σ[i]? := by
    intro σ vs
    induction vs with
    | nil => intro i; simp [L2.wipe]
    | cons v vs ih =>
      intro i
      unfold L2.wipe
      by_cases hv : v = i
      · subst hv
        by_cases hl : v < σ.length
        · rw [List.getElem?_set_self (by rw [wipe_length]; exact hl), if_pos ⟨List.mem_cons_self, hl⟩]
        · rw [List.getElem?_eq_none (by simp [wipe_length]; omega), if_neg (fun q => hl q.2), List.getElem?_eq_none (by omega)]
      · rw [List.getElem?_set_ne hv, ih]
        have : (i ∈ v :: vs ∧ i < σ.length) ↔ (i ∈ vs ∧ i < σ.length) := by
          rw [List.mem_cons]
          constructor
          · rintro ⟨rfl | h, h2⟩
            · exact absurd rfl hv
            · exact ⟨h, h2⟩
          · rintro ⟨h, h2⟩; exact ⟨.inr h, h2⟩
        simp only [this]
  intro vs ag
  apply List.ext_getElem?
  intro i
  rw [look, look, ag.1]
  by_cases hi : i ∈ vs
  · by_cases hl : i < σ.length
    · rw [if_pos ⟨hi, hl⟩, if_pos ⟨hi, hl⟩]
    · rw [if_neg (fun q => hl q.2), if_neg (fun q => hl q.2), List.getElem?_eq_none (by have := ag.1; omega), List.getElem?_eq_none (by omega)]
  · rw [if_neg (fun q => hi q.1), if_neg (fun q => hi q.1)]
    exact ag.2 i hi
theorem Ag.mono {ts vs : List Nat} {σ σ' : L2.St} (h : Ag ts σ σ') (s : ∀ i ∈ ts, i ∈ vs) : Ag vs σ σ' := ⟨h.1, fun i hi => h.2 i (fun q => hi (s i q))⟩

/-- an object left out of H -/
def outA (H : Hp) (p : Addr) : Hp := fun b => if b = p then none else H b
theorem outA_upd {H : Hp} {p : Addr} {o : HO} (h : H p = some o) : upd (outA H p) p o = H := by
  funext b
  unfold upd outA
  by_cases hb : b = p
  · rw [if_pos hb, hb, h]
  · rw [if_neg hb, if_neg hb]
theorem RG.out {M : Im} {w : Wd} {fr : List (Addr × HO)} {G : Gh} {H : Hp} {p : Addr} {o : HO} (r : RG M w ((p, o) :: fr) G H) : RG M w fr G (outA H p) := by
  have nd : (w.ρ ++ p :: fr.map (·.1)).Nodup := r.nd
  have nd' := List.nodup_cons.mp ((List.perm_middle.nodup_iff).mp nd)
  have hc : w.C p = none := r.hot p (by simp)
  have ne : ∀ a, a ∈ w.ρ ++ fr.map (·.1) → a ≠ p := fun a ha e => nd'.1 (by subst e; exact ha)
  have o_ne : ∀ a, a ≠ p → outA H p a = H a := fun a ha => by unfold outA; rw [if_neg ha]
  have lt := r.less (List.sublist_cons_self (p, o) fr)
  refine ⟨fun a u e => ?_, lt.len, fun n ob a e1 e2 => ?_, fun q hq => ?_, lt.nd, lt.hot⟩
  · rw [o_ne a (ne_of_none e hc)]; exact r.cold a u e
  · obtain ⟨ho, h1, h2⟩ := lt.obj n ob a e1 e2
    exact ⟨ho, by rw [o_ne a (ne a (List.mem_append_left _ (List.mem_of_getElem? e2)))]; exact h1, h2⟩
  · rw [o_ne q.1 (ne q.1 (List.mem_append_right _ (List.mem_map.mpr ⟨q, hq, rfl⟩)))]; exact lt.frm q hq
theorem outA_same {H : Hp} {p : Addr} : outA H p p = none := if_pos rfl

/-! ### the meaning -/
open Classical in
noncomputable def compL (gd : Gd) (tg : MG) (t : MT) (e : ME) : List D → Env' → Gh → R (List D)
  | [], _, g => if gdOk gd g then .ok [] g else .bad
  | d :: ds, env, g => if gdOk gd g then (match tg d env with
      | none => .bad
      | some env1 => match t env1 g with
        | .ok k g1 => if k then (match e env1 g1 with
            | .ok y g2 => (match compL gd tg t e ds env g2 with
              | .ok ys g3 => .ok (y :: ys) g3
              | _ => .bad)
            | _ => .bad) else compL gd tg t e ds env g1
        | _ => .bad) else .bad
noncomputable def lComp (it : MI) (tg : MG) (t : MT) (e : ME) (vs : List Nat) : ML := fun env g => (it env g).bind fun p g1 => match compL p.2 tg t e p.1 (blkE env vs) g1 with
  | .ok ys g2 => if ys.length ≤ LIM then .ok ys g2 else .bad
  | _ => .bad
section
variable {M : Im} {W : XW} {X : Cx} {k : Nat} {elt tg iter : Expr} {ifs : List Expr} {scope : Scope} {own : List (Str × Nat)} {pos : Pos} {wi : TI} {mi : MI} {mg : MG} {mt : MT} {me : ME} {ts : List Nat} {vs : List Nat}
abbrev PF' (M : Im) (Q : VK) : List D → Wd → Gh → Hp → Prop := fun ds w' _ H' => ∀ us p, DVs M w' ds us → us.length ≤ sizeLine → H' p = none → Q (.ref p) (upd H' p (.lst us))
theorem lc_read (i2 : ∀ w fr env G σ H Q, RS M w fr env G σ H → Post M W fr env σ w (fun p w' G' H' => ∀ J, ItOk M w' p.2 J p.1 → gdOk p.2 G' → Q J H') (mi env G) → wi σ H Q) (hts : ∀ i ∈ ts, i ∈ vs)
    {w : Wd} {fr : List (Addr × HO)} {env : Env'} {G : Gh} {σ : L2.St} {H : Hp} {Q : VK} (r : RS M w fr env G σ H) (h : Post M W fr env σ w (PF' M Q) (lComp mi mg mt me vs env G)) :
    tLc wi (gOf M ts mg) (ttOf M W0 mt) (tOf M W0 me) vs σ H Q := by
  refine i2 w fr env G σ H _ r ((Post.bind h).imp fun p w1 G1 H1 l1 r1 h1 J jo gok => ?_)
  obtain ⟨ds, gd⟩ := p
  simp only at h1 jo gok
  cases e : compL gd mg mt me ds (blkE env vs) G1 with
  | bad => rw [e] at h1; exact h1.elim
  | exc x g => rw [e] at h1; exact h1.elim
  | ok ys Gf =>
    rw [e] at h1
    by_cases hlen : ys.length ≤ LIM
    · simp only [hlen, if_true] at h1
      intro D hD
      obtain ⟨os, g1, sl⟩ := r1
      have sb : SlR M w1 [] (blkE env vs) (L2.wipe σ vs) := SlR.wipe sl.hide vs
      refine ⟨fun i m H' => ∃ w' G' accD accV ys', w1.Le w' ∧ RG M w' ((D, .lst accV) :: (os ++ fr)) G' H' ∧ DVs M w' accD accV ∧ compL gd mg mt me (ds.drop i) (blkE env vs) G' = .ok ys' Gf ∧ accD ++ ys' = ys ∧ m = ds.length - i ∧ i ≤ ds.length,
        ⟨_, w1, G1, [], [], ys, Wd.Le.refl w1, g1.newFr hD, .nil, e, rfl, rfl, Nat.zero_le _⟩, ?_⟩
      rintro i m H' ⟨w', G', accD, accV, ys', l', g', da, e', ey, rfl, hi⟩
      have rb : RS M w' ((D, .lst accV) :: (os ++ fr)) (blkE env vs) G' (L2.wipe σ vs) H' := ⟨[], g', sb.up l'⟩
      have hgd : gdOk gd G' := by
        by_cases q : gdOk gd G'
        · exact q
        · exfalso
          cases ed : ds.drop i with
          | nil => rw [ed] at e'; unfold compL at e'; rw [if_neg q] at e'; cases e'
          | cons d r => rw [ed] at e'; unfold compL at e'; rw [if_neg q] at e'; cases e'
      by_cases hlt : i < ds.length
      · rw [List.drop_eq_getElem_cons hlt] at e'
        unfold compL at e'
        rw [if_pos hgd] at e'
        cases e1 : mg ds[i] (blkE env vs) with
        | none => rw [e1] at e'; cases e'
        | some env1 =>
          rw [e1] at e'
          simp only at e'
          cases e2 : mt env1 G' with
          | bad => rw [e2] at e'; cases e'
          | exc x g => rw [e2] at e'; cases e'
          | ok kk g2 =>
            rw [e2] at e'
            simp only at e'
            refine .inr ⟨jo.go i w' _ _ G' _ H' l' rb hgd hlt, fun H2 => ∃ w' G' accD accV ys', w1.Le w' ∧ RG M w' ((D, .lst accV) :: (os ++ fr)) G' H2 ∧ DVs M w' accD accV ∧ compL gd mg mt me (ds.drop (i + 1)) (blkE env vs) G' = .ok ys' Gf ∧ accD ++ ys' = ys,
              fun H2 ⟨w2, G2, a2, v2, y2, q1, q2, q3, q4, q5⟩ => ⟨ds.length - (i + 1), by omega, w2, G2, a2, v2, y2, q1, q2, q3, q4, q5, rfl, hlt⟩, fun x H2 hy => ?_⟩
            obtain ⟨w2, l2, r2, dv⟩ := jo.yld i w' _ _ G' _ H' x H2 ds[i] l' rb hgd (List.getElem?_eq_getElem hlt) hy
            refine ⟨w2, (D, .lst accV) :: (os ++ fr), blkE env vs, G', ds[i], r2, dv, ?_⟩
            rw [e1]
            intro w3 σ3 H3 l3 r3 ag3
            have ag : L2.wipe σ3 vs = L2.wipe σ vs := by
              rw [wipe_ag vs (ag3.mono hts)]
              exact wipe_ag vs ⟨by rw [wipe_length], fun j hj => by
                have : ∀ (l : List Nat), j ∉ l → (L2.wipe σ l)[j]? = σ[j]? := fun l => wipe_out
                exact this vs hj⟩
            refine ⟨ag, w3, _, env1, G', r3, ?_⟩
            rw [e2]
            intro w4 H4 l4 r4
            show if kk = true then _ else _
            cases kk with
            | false =>
              simp only [Bool.false_eq_true, if_false] at e' ⊢
              obtain ⟨oo, g4, s4⟩ := r4
              exact ⟨w4, g2, accD, accV, ys', ((l'.trans l2).trans l3).trans l4, (g4.less (List.sublist_append_right _ _)), da.up ((l2.trans l3).trans l4), e', ey⟩
            | true =>
              simp only [if_true] at e' ⊢
              cases e3 : me env1 g2 with
              | bad => rw [e3] at e'; cases e'
              | exc x g => rw [e3] at e'; cases e'
              | ok y g3 =>
                rw [e3] at e'
                simp only at e'
                cases e4 : compL gd mg mt me (ds.drop (i + 1)) (blkE env vs) g3 with
                | bad => rw [e4] at e'; cases e'
                | exc x g => rw [e4] at e'; cases e'
                | ok ys2 g4 =>
                  rw [e4] at e'
                  have q : R.ok (y :: ys2) g4 = R.ok ys' Gf := e'
                  injection q with q1 q2
                  subst q1 q2
                  refine ⟨w4, _, env1, g2, r4, ?_⟩
                  rw [e3]
                  intro w5 H5 l5 r5 vy dy
                  obtain ⟨oo, g5, s5⟩ := r5
                  have g5' := g5.less (List.sublist_append_right oo ((D, HO.lst accV) :: (os ++ fr)))
                  have lall := (((l'.trans l2).trans l3).trans l4).trans l5
                  have lda := ((l2.trans l3).trans l4).trans l5
                  refine ⟨accV, g5'.frm (D, .lst accV) List.mem_cons_self, ?_, ?_⟩
                  · rw [← (da.length)]
                    have : accD.length + (ys2.length + 1) = ys.length := by rw [← ey]; simp
                    exact lim_lt (by omega)
                  · refine ⟨w5, g3, accD ++ [y], accV ++ [vy], ys2, lall, ?_, (da.up lda).append (.cons dy .nil), e4, by rw [← ey]; simp⟩
                    exact RG.setFr (f1 := []) g5'
      · have ei : i = ds.length := by omega
        subst ei
        rw [List.drop_length] at e'
        unfold compL at e'
        rw [if_pos hgd] at e'
        have q : R.ok ([] : List GL.D) G' = R.ok ys' Gf := e'
        injection q with q1 q2
        subst q1 q2
        rw [List.append_nil] at ey
        subst ey
        refine .inl ⟨jo.stop w' _ _ G' _ H' l' rb hgd, ?_⟩
        have hfr := g'.frm (D, .lst accV) List.mem_cons_self
        have ro : RS M w' fr env G' σ (outA H' D) := ⟨os, g'.out, sl.up l'⟩
        have := h1 w' _ l' ro accV D da (by rw [← da.length]; exact lim_le hlen) outA_same
        rw [outA_upd hfr] at this
        exact this
    · simp only [hlen, if_false] at h1; exact h1.elim

/-- [elt for tg in iter if ..] -/
theorem sf_comp (g : GX M k X) (hi : SI M W X tg iter mi) (ok : BlkOk X.N X.env.scope scope own)
    (hg : ∀ (s : Shared) (H : Hp) (C : Addr) (cl : List (Str × Addr)) (fp : List Addr), SG M (X.blk s H scope (compEnvC scope cl C X.env) fp) tg ts mg)
    (ht : ∀ (s : Shared) (H : Hp) (C : Addr) (cl : List (Str × Addr)) (fp : List Addr), STs M W0 (X.blk s H scope (compEnvC scope cl C X.env) fp) ifs mt)
    (he : ∀ (s : Shared) (H : Hp) (C : Addr) (cl : List (Str × Addr)) (fp : List Addr), SE M W0 (X.blk s H scope (compEnvC scope cl C X.env) fp) elt me)
    (hts : ∀ i ∈ ts, i ∈ own.map (·.2)) (hs : ∀ x, foldedSetIterable iter X.env x = pure x) :
    SF M W X (.ListComp elt [⟨tg, iter, ifs, 0⟩] scope pos) (lComp mi mg mt me (own.map (·.2))) := by
  obtain ⟨wi, i1, i2⟩ := hi
  exact ⟨_, pe_lc g.calm g.nd i1 ok (fun s H C cl fp => (hg s H C cl fp).pg) ht (fun s H C cl fp => (he s H C cl fp).pe) hs, fun w fr env G σ H Q r h => lc_read i2 hts r h⟩
/-- name = [..] on one line, the name a local: as a thing that never changes -/
theorem ss_setComp (g : GX M k X) {i : Nat} {y : Str} {py spos : Pos} (hy : X.N[i]? = some y) (hyl : X.env.scope.names.lookup y = some .local)
    (hsw : swapsWith (.ListComp elt [⟨tg, iter, ifs, 0⟩] scope pos) (some (.Name y py)) spos.line X.env = pure true) (hi : SI M W X tg iter mi) (ok : BlkOk X.N X.env.scope scope own)
    (hg : ∀ (s : Shared) (H : Hp) (C : Addr) (cl : List (Str × Addr)) (fp : List Addr), SG M (X.blk s H scope (compEnvC scope cl C X.env) fp) tg ts mg)
    (ht : ∀ (s : Shared) (H : Hp) (C : Addr) (cl : List (Str × Addr)) (fp : List Addr), STs M W0 (X.blk s H scope (compEnvC scope cl C X.env) fp) ifs mt)
    (he : ∀ (s : Shared) (H : Hp) (C : Addr) (cl : List (Str × Addr)) (fp : List Addr), SE M W0 (X.blk s H scope (compEnvC scope cl C X.env) fp) elt me)
    (hts : ∀ i ∈ ts, i ∈ own.map (·.2)) (hs : ∀ x, foldedSetIterable iter X.env x = pure x) :
    SS M W X (.Assign [.Name y py] (.ListComp elt [⟨tg, iter, ifs, 0⟩] scope pos) spos) (sSet i (eNew (lComp mi mg mt me (own.map (·.2))))) := by
  obtain ⟨wi, i1, i2⟩ := hi
  refine ⟨_, ps_setLc g.calm g.nd hy hyl hsw i1 ok (fun s H C cl fp => (hg s H C cl fp).pg) ht (fun s H C cl fp => (he s H C cl fp).pe) hs, fun w fr env G σ H D r h => ?_⟩
  refine lc_read i2 hts r ((Post.bind (PostS.bind h)).imp fun xs w1 G1 H1 l1 r1 h1 us p dvs hz hp => ?_)
  obtain ⟨l, r'⟩ := r1.newCold (o := .lst us) hp
  have h2 := h1 _ _ l r'
  exact h2 _ _ _ (Wd.Le.refl _) (r'.setVal i (.lst upd_same (dvs.up l)))
/-- .. as a list of the frame's own -/
theorem ss_setCompOwn (g : GX M k X) {i : Nat} {y : Str} {py spos : Pos} (hy : X.N[i]? = some y) (hyl : X.env.scope.names.lookup y = some .local)
    (hsw : swapsWith (.ListComp elt [⟨tg, iter, ifs, 0⟩] scope pos) (some (.Name y py)) spos.line X.env = pure true) (hi : SI M W X tg iter mi) (ok : BlkOk X.N X.env.scope scope own)
    (hg : ∀ (s : Shared) (H : Hp) (C : Addr) (cl : List (Str × Addr)) (fp : List Addr), SG M (X.blk s H scope (compEnvC scope cl C X.env) fp) tg ts mg)
    (ht : ∀ (s : Shared) (H : Hp) (C : Addr) (cl : List (Str × Addr)) (fp : List Addr), STs M W0 (X.blk s H scope (compEnvC scope cl C X.env) fp) ifs mt)
    (he : ∀ (s : Shared) (H : Hp) (C : Addr) (cl : List (Str × Addr)) (fp : List Addr), SE M W0 (X.blk s H scope (compEnvC scope cl C X.env) fp) elt me)
    (hts : ∀ i ∈ ts, i ∈ own.map (·.2)) (hs : ∀ x, foldedSetIterable iter X.env x = pure x) :
    SS M W X (.Assign [.Name y py] (.ListComp elt [⟨tg, iter, ifs, 0⟩] scope pos) spos) (sSetOwn i (lComp mi mg mt me (own.map (·.2)))) := by
  obtain ⟨wi, i1, i2⟩ := hi
  refine ⟨_, ps_setLc g.calm g.nd hy hyl hsw i1 ok (fun s H C cl fp => (hg s H C cl fp).pg) ht (fun s H C cl fp => (he s H C cl fp).pe) hs, fun w fr env G σ H D r h => ?_⟩
  refine lc_read i2 hts r ((PostS.bind h).imp fun xs w1 G1 H1 l1 r1 h1 us p dvs hz hp => ?_)
  by_cases hl : i < env.length
  · rw [if_pos hl] at h1
    obtain ⟨os, g1, sl⟩ := r1
    obtain ⟨o1, o2, q1, q2, q3⟩ := sl.setOwn (a := p) dvs i hl
    refine h1 w1 _ _ (Wd.Le.refl w1) ⟨o2, ?_, q3⟩
    have g2 := (g1.less (q1.append (List.Sublist.refl fr))).newFr (o := .lst us) hp
    exact g2.perm (q2.append_right fr)
  · rw [if_neg hl] at h1; exact h1.elim
end
end GL
/-! GL part 9: built-in functions. -/
namespace GL
open PySem L2
def CallOk (M : Im) (W : XW) (X : Cx) (f : Value) (o : List D → Gh → R D) : Prop :=
  ∃ r, CallR X f r ∧ ∀ w fr env G σ H Q ds vs, RS M w fr env G σ H → DVs M w ds vs → Post M W fr env σ w (PE' M Q) (o ds G) → r vs H Q
/-- a built-in that hands out a new list -/
def CallF (M : Im) (W : XW) (X : Cx) (f : Value) (o : List D → Gh → R (List D)) : Prop :=
  ∃ r, CallR X f r ∧ ∀ w fr env G σ H Q ds vs, RS M w fr env G σ H → DVs M w ds vs → Post M W fr env σ w (PF' M Q) (o ds G) → r vs H Q
def eBi (o : List D → Gh → R D) (l : ML) : ME := fun env g => (l env g).bind o
def lBi (o : List D → Gh → R (List D)) (l : ML) : ML := fun env g => (l env g).bind o

section
variable {M : Im} {W : XW} {X : Cx} {k : Nat} {e : Expr} {es : List Expr} {ml : ML} {x : Str} {p pos : Pos} {bid T : String}
theorem se_callB (g : GX M k X) {o : List D → Gh → R D} (hc : CallOk M W X (.builtin bid) o) (hg : Gl X x) (hm : M.mg x = none) (hv : bootBuiltins x = some (.builtin bid)) (ha : SA M W X (e :: es) ml) (hn : x ≠ "__name__") (hdb : (x == ("__debug__" : Str)) = false)
    (he : starEach (e :: es) X.env = (false, eval e X.env) :: starEach es X.env) (hpl : (backTo pos (starEach es X.env)).any (·.1) = false) : SE M W X (.Call (.Name x p) (e :: es) [] pos) (eBi o ml) := by
  obtain ⟨r, o1, o2⟩ := hc
  obtain ⟨t, a1, a2⟩ := ha
  refine ⟨_, pe_callB o1 hg (by rw [g.mg]; exact hm) hv a1 hn hdb he hpl, fun w fr env G σ H Q rs h => ?_⟩
  exact a2 w fr env G σ H _ rs ((Post.bind h).imp fun ds w1 G1 H1 l1 r1 h1 vs dvs => o2 w1 fr env G1 σ H1 Q ds vs r1 dvs h1)
theorem se_callTy (g : GX M k X) {o : List D → Gh → R D} (hc : CallOk M W X (.type T) o) (hg : Gl X x) (hm : M.mg x = none) (hv : bootBuiltins x = some (.type T)) (ha : SA M W X (e :: es) ml) (hn : x ≠ "__name__") (hdb : (x == ("__debug__" : Str)) = false)
    (he : starEach (e :: es) X.env = (false, eval e X.env) :: starEach es X.env) (hpl : (backTo pos (starEach es X.env)).any (·.1) = false) : SE M W X (.Call (.Name x p) (e :: es) [] pos) (eBi o ml) := by
  obtain ⟨r, o1, o2⟩ := hc
  obtain ⟨t, a1, a2⟩ := ha
  refine ⟨_, pe_callTy o1 hg (by rw [g.mg]; exact hm) hv a1 hn hdb he hpl, fun w fr env G σ H Q rs h => ?_⟩
  exact a2 w fr env G σ H _ rs ((Post.bind h).imp fun ds w1 G1 H1 l1 r1 h1 vs dvs => o2 w1 fr env G1 σ H1 Q ds vs r1 dvs h1)
theorem sf_callTy (g : GX M k X) {o : List D → Gh → R (List D)} (hc : CallF M W X (.type T) o) (hg : Gl X x) (hm : M.mg x = none) (hv : bootBuiltins x = some (.type T)) (ha : SA M W X (e :: es) ml) (hn : x ≠ "__name__") (hdb : (x == ("__debug__" : Str)) = false)
    (he : starEach (e :: es) X.env = (false, eval e X.env) :: starEach es X.env) (hpl : (backTo pos (starEach es X.env)).any (·.1) = false) : SF M W X (.Call (.Name x p) (e :: es) [] pos) (lBi o ml) := by
  obtain ⟨r, o1, o2⟩ := hc
  obtain ⟨t, a1, a2⟩ := ha
  refine ⟨_, pe_callTy o1 hg (by rw [g.mg]; exact hm) hv a1 hn hdb he hpl, fun w fr env G σ H Q rs h => ?_⟩
  exact a2 w fr env G σ H _ rs ((Post.bind h).imp fun ds w1 G1 H1 l1 r1 h1 vs dvs => o2 w1 fr env G1 σ H1 Q ds vs r1 dvs h1)
theorem sf_callB (g : GX M k X) {o : List D → Gh → R (List D)} (hc : CallF M W X (.builtin bid) o) (hg : Gl X x) (hm : M.mg x = none) (hv : bootBuiltins x = some (.builtin bid)) (ha : SA M W X (e :: es) ml) (hn : x ≠ "__name__") (hdb : (x == ("__debug__" : Str)) = false)
    (he : starEach (e :: es) X.env = (false, eval e X.env) :: starEach es X.env) (hpl : (backTo pos (starEach es X.env)).any (·.1) = false) : SF M W X (.Call (.Name x p) (e :: es) [] pos) (lBi o ml) := by
  obtain ⟨r, o1, o2⟩ := hc
  obtain ⟨t, a1, a2⟩ := ha
  refine ⟨_, pe_callB o1 hg (by rw [g.mg]; exact hm) hv a1 hn hdb he hpl, fun w fr env G σ H Q rs h => ?_⟩
  exact a2 w fr env G σ H _ rs ((Post.bind h).imp fun ds w1 G1 H1 l1 r1 h1 vs dvs => o2 w1 fr env G1 σ H1 Q ds vs r1 dvs h1)

/-! ### abs, int, len, min, max -/
def oAbs : List D → Gh → R D
  | [.int i], g => .ok (.int (if i < 0 then -i else i)) g
  | _, _ => .bad
def oInt : List D → Gh → R D
  | [.int i], g => .ok (.int i) g
  | [.bl b], g => .ok (.int (if b then 1 else 0)) g
  | _, _ => .bad
def lenD : D → Option Nat
  | .str x => if x.length ≤ LIM then some x.length else none
  | .lst xs | .tup xs => some xs.length
  | .arr ns => some ns.length
  | _ => none
def oLen : List D → Gh → R D
  | [d], g => match lenD (deref g d) with
    | some n => .ok (.int n) g
    | none => .bad
  | _, _ => .bad
def oMin : List D → Gh → R D
  | [.int i, .int j], g => .ok (.int (if j < i then j else i)) g
  | _, _ => .bad
def oMax : List D → Gh → R D
  | [.int i, .int j], g => .ok (.int (if j > i then j else i)) g
  | _, _ => .bad
theorem DVs.one_inv {w : Wd} {d : D} {vs : List V} (h : DVs M w [d] vs) : ∃ v, vs = [v] ∧ DV M w d v := by
  cases h with
  | cons a b => cases b; exact ⟨_, rfl, a⟩
theorem DVs.two_inv {w : Wd} {d d' : D} {vs : List V} (h : DVs M w [d, d'] vs) : ∃ v v', vs = [v, v'] ∧ DV M w d v ∧ DV M w d' v' := by
  cases h with
  | cons a b =>
    obtain ⟨v', rfl, q⟩ := DVs.one_inv b
    exact ⟨_, _, rfl, a, q⟩
theorem abs_ok : CallOk M W X (.builtin "abs") oAbs := by
  refine ⟨_, call_abs, fun w fr env G σ H Q ds vs r hd h => ?_⟩
  unfold oAbs at h
  split at h
  · obtain ⟨v, rfl, q⟩ := DVs.one_inv hd
    cases q
    exact ⟨_, rfl, Post.here h r _ (.int _)⟩
  · exact h.elim
theorem int_ok : CallOk M W X (.type "int") oInt := by
  refine ⟨_, call_int1, fun w fr env G σ H Q ds vs r hd h => ?_⟩
  unfold oInt at h
  split at h
  · obtain ⟨v, rfl, q⟩ := DVs.one_inv hd
    cases q
    exact .inl ⟨_, rfl, Post.here h r _ (.int _)⟩
  · obtain ⟨v, rfl, q⟩ := DVs.one_inv hd
    cases q
    exact .inr ⟨_, rfl, Post.here h r _ (.int _)⟩
  · exact h.elim
theorem min_ok (g : GX M k X) : CallOk M W X (.builtin "min") oMin := by
  refine ⟨_, call_min2 g.calm, fun w fr env G σ H Q ds vs r hd h => ?_⟩
  unfold oMin at h
  split at h
  · obtain ⟨v, v', rfl, q, q'⟩ := DVs.two_inv hd
    cases q; cases q'
    exact ⟨_, _, rfl, Post.here h r _ (.int _)⟩
  · exact h.elim
theorem max_ok (g : GX M k X) : CallOk M W X (.builtin "max") oMax := by
  refine ⟨_, call_max2 g.calm, fun w fr env G σ H Q ds vs r hd h => ?_⟩
  unfold oMax at h
  split at h
  · obtain ⟨v, v', rfl, q, q'⟩ := DVs.two_inv hd
    cases q; cases q'
    exact ⟨_, _, rfl, Post.here h r _ (.int _)⟩
  · exact h.elim
theorem len_ok (g : GX M k X) : CallOk M W X (.builtin "len") oLen := by
  refine ⟨_, call_len, fun w fr env G σ H Q ds vs r hd h => ?_⟩
  unfold oLen at h
  split at h
  · rename_i d
    obtain ⟨v, rfl, q⟩ := DVs.one_inv hd
    have dh := DH.of r q
    generalize deref G d = d' at *
    cases d' <;> simp only [lenD] at h <;> try exact h.elim
    · rename_i z
      by_cases hz : z.length ≤ LIM
      · rw [if_pos hz] at h
        rw [dh.str]
        exact ⟨_, z.length, rfl, ⟨lim_le hz, rfl⟩, Post.here h r _ (.int _)⟩
      · rw [if_neg hz] at h; exact h.elim
    · obtain ⟨a, us, rfl, hs, hd'⟩ := dh.tup
      have hs' := SqT.mono r.cold hs
      rw [← g.K] at hs'
      exact ⟨_, us.length, rfl, .inr ⟨us, hs', rfl⟩, by rw [← hd'.length]; exact Post.here h r _ (.int _)⟩
    · obtain ⟨a, us, rfl, hs, hd'⟩ := dh.list
      exact ⟨_, us.length, rfl, .inl ⟨us, .inl (.inl hs), rfl⟩, by rw [← hd'.length]; exact Post.here h r _ (.int _)⟩
    · obtain ⟨a, rfl, hs⟩ := dh.arr
      have hs' := SqL.mono r.cold hs
      rw [← g.K] at hs'
      refine ⟨_, _, rfl, .inl ⟨_, hs', rfl⟩, ?_⟩
      rw [List.length_map]
      exact Post.here h r _ (.int _)
  · exact h.elim

/-! ### sum, all, any -/
def asInts : List D → Option (List Int)
  | [] => some []
  | .int i :: r => (asInts r).map (i :: ·)
  | _ :: _ => none
def asBls : List D → Option (List Bool)
  | [] => some []
  | .bl i :: r => (asBls r).map (i :: ·)
  | _ :: _ => none
theorem asInts_eq : ∀ {ds : List D} {ns : List Int}, asInts ds = some ns → ds = ns.map D.int
  | [], ns, h => by cases h; rfl
  | d :: ds, ns, h => by
    cases d <;> simp only [asInts] at h <;> try cases h
    cases e : asInts ds with
    | none => rw [e] at h; cases h
    | some ms => rw [e] at h; cases h; rw [asInts_eq e]; rfl
theorem asBls_eq : ∀ {ds : List D} {ns : List Bool}, asBls ds = some ns → ds = ns.map D.bl
  | [], ns, h => by cases h; rfl
  | d :: ds, ns, h => by
    cases d <;> simp only [asBls] at h <;> try cases h
    cases e : asBls ds with
    | none => rw [e] at h; cases h
    | some ms => rw [e] at h; cases h; rw [asBls_eq e]; rfl
@[simp] theorem asInts_map (ns : List Int) : asInts (ns.map D.int) = some ns := by
  induction ns with
  | nil => rfl
  | cons n ns ih => simp [asInts, ih]
@[simp] theorem asBls_map (ns : List Bool) : asBls (ns.map D.bl) = some ns := by
  induction ns with
  | nil => rfl
  | cons n ns ih => simp [asBls, ih]
theorem DVs.ints_inv {w : Wd} : ∀ {ns : List Int} {vs : List V}, DVs M w (ns.map D.int) vs → vs = ns.map V.int
  | [], _, h => by cases h; rfl
  | n :: ns, _, h => by
    cases h with
    | cons a b => cases a; rw [DVs.ints_inv b]; rfl
theorem DVs.bls_inv {w : Wd} : ∀ {ns : List Bool} {vs : List V}, DVs M w (ns.map D.bl) vs → vs = ns.map V.bl
  | [], _, h => by cases h; rfl
  | n :: ns, _, h => by
    cases h with
    | cons a b => cases a; rw [DVs.bls_inv b]; rfl
def oSum : List D → Gh → R D
  | [d], g => match deref g d with
    | .lst xs => match asInts xs with
      | some ns => .ok (.int ns.sum) g
      | none => .bad
    | _ => .bad
  | _, _ => .bad
def oAll : List D → Gh → R D
  | [d], g => match deref g d with
    | .lst xs => match asBls xs with
      | some ns => .ok (.bl (ns.all id)) g
      | none => .bad
    | _ => .bad
  | _, _ => .bad
def oAny : List D → Gh → R D
  | [d], g => match deref g d with
    | .lst xs => match asBls xs with
      | some ns => .ok (.bl (ns.any id)) g
      | none => .bad
    | _ => .bad
  | _, _ => .bad
theorem sum_ok (g : GX M k X) : CallOk M W X (.builtin "sum") oSum := by
  refine ⟨_, cr_sum g.calm, fun w fr env G σ H Q ds vs r hd h => ?_⟩
  unfold oSum at h
  split at h
  · rename_i d
    obtain ⟨v, rfl, q⟩ := DVs.one_inv hd
    have dh := DH.of r q
    generalize deref G d = d' at *
    cases d' <;> try exact h.elim
    rename_i xs
    obtain ⟨a, us, rfl, hs, hd'⟩ := dh.list
    simp only at h
    cases e : asInts xs with
    | none => rw [e] at h; exact h.elim
    | some ns =>
      rw [e] at h
      rw [asInts_eq e] at hd'
      rw [DVs.ints_inv hd'] at hs
      exact ⟨a, ns, rfl, .inl (.inl hs), Post.here h r _ (.int _)⟩
  · exact h.elim
theorem all_ok (g : GX M k X) : CallOk M W X (.builtin "all") oAll := by
  refine ⟨_, cr_all g.calm, fun w fr env G σ H Q ds vs r hd h => ?_⟩
  unfold oAll at h
  split at h
  · rename_i d
    obtain ⟨v, rfl, q⟩ := DVs.one_inv hd
    have dh := DH.of r q
    generalize deref G d = d' at *
    cases d' <;> try exact h.elim
    rename_i xs
    obtain ⟨a, us, rfl, hs, hd'⟩ := dh.list
    simp only at h
    cases e : asBls xs with
    | none => rw [e] at h; exact h.elim
    | some ns =>
      rw [e] at h
      rw [asBls_eq e] at hd'
      rw [DVs.bls_inv hd'] at hs
      exact ⟨a, ns, rfl, .inl (.inl hs), Post.here h r _ (.bl _)⟩
  · exact h.elim
theorem any_ok (g : GX M k X) : CallOk M W X (.builtin "any") oAny := by
  refine ⟨_, cr_any g.calm, fun w fr env G σ H Q ds vs r hd h => ?_⟩
  unfold oAny at h
  split at h
  · rename_i d
    obtain ⟨v, rfl, q⟩ := DVs.one_inv hd
    have dh := DH.of r q
    generalize deref G d = d' at *
    cases d' <;> try exact h.elim
    rename_i xs
    obtain ⟨a, us, rfl, hs, hd'⟩ := dh.list
    simp only at h
    cases e : asBls xs with
    | none => rw [e] at h; exact h.elim
    | some ns =>
      rw [e] at h
      rw [asBls_eq e] at hd'
      rw [DVs.bls_inv hd'] at hs
      exact ⟨a, ns, rfl, .inl (.inl hs), Post.here h r _ (.bl _)⟩
  · exact h.elim

/-! ### list, tuple -/
def seqD : D → Option (List D)
  | .lst xs | .tup xs => some xs
  | _ => none
def oListF : List D → Gh → R (List D)
  | [d], g => match seqD (deref g d) with
    | some xs => .ok xs g
    | none => .bad
  | _, _ => .bad
def oTuple : List D → Gh → R D
  | [d], g => match seqD (deref g d) with
    | some xs => .ok (.tup xs) g
    | none => .bad
  | _, _ => .bad
theorem list_ok (g : GX M k X) : CallF M W X (.type "list") oListF := by
  have len : ∀ {X : Cx} {pins : List (Addr × Obj)} {s : Shared} {σ : L2.St} {H : Hp} {a : Addr} {xs : List V}, True := fun {_ _ _ _ _ _ _} => trivial
  refine ⟨fun vs H Q => ∃ p ys, vs = [.ref p] ∧ (SqL X.K H p ys ∨ SqT X.K H p ys) ∧ (ys.length ≤ sizeLine → ∀ l, H l = none → Q (.ref l) (upd H l (.lst ys))), ?_, fun w fr env G σ H Q ds vs r hd h => ?_⟩
  · intro pins s σ H xs us Q I rv q
    obtain ⟨p, ys, rfl, hs, q⟩ := q
    have hz : ys.length ≤ sizeLine := by
      rcases hs with hs | hs
      · obtain ⟨_, _, _, hz⟩ := I.list hs; exact hz
      · obtain ⟨_, _, _, hz⟩ := I.tuple hs; exact hz
    exact call_list_of pins s σ H _ us Q I rv ⟨p, ys, rfl, hs, q hz⟩
  · unfold oListF at h
    split at h
    · rename_i d
      obtain ⟨v, rfl, q⟩ := DVs.one_inv hd
      have dh := DH.of r q
      generalize deref G d = d' at *
      cases d' <;> try exact h.elim
      · obtain ⟨a, us, rfl, hs, hd'⟩ := dh.tup
        have hs' := SqT.mono r.cold hs
        rw [← g.K] at hs'
        exact ⟨a, us, rfl, .inr hs', fun hz l hl => Post.here h r us l hd' hz hl⟩
      · obtain ⟨a, us, rfl, hs, hd'⟩ := dh.list
        exact ⟨a, us, rfl, .inl (.inl (.inl hs)), fun hz l hl => Post.here h r us l hd' hz hl⟩
    · exact h.elim
theorem tuple_ok (g : GX M k X) : CallOk M W X (.type "tuple") oTuple := by
  refine ⟨_, call_tuple_of, fun w fr env G σ H Q ds vs r hd h => ?_⟩
  unfold oTuple at h
  split at h
  · rename_i d
    obtain ⟨v, rfl, q⟩ := DVs.one_inv hd
    have dh := DH.of r q
    generalize deref G d = d' at *
    cases d' <;> try exact h.elim
    · obtain ⟨a, us, rfl, hs, hd'⟩ := dh.tup
      have hs' := SqT.mono r.cold hs
      rw [← g.K] at hs'
      exact ⟨a, us, rfl, .inr ⟨hs', Post.here h r _ (.tup hs hd')⟩⟩
    · obtain ⟨a, us, rfl, hs, hd'⟩ := dh.list
      exact ⟨a, us, rfl, .inl ⟨.inl (.inl hs), fun l hl => post_tup r hd' h hl⟩⟩
  · exact h.elim

/-! ### repr -/
def reprS (d : D) : Str := (toP d).shown
def rprOk (d : D) : Bool := okD d 64 && (toP d).showable && decide ((reprS d).length ≤ LIM)
def oRepr : List D → Gh → R D
  | [d], g => let d' := deref g d; guardR (rprOk d') (.str (reprS d')) g
  | _, _ => .bad
mutual
theorem noDict : ∀ d : D, (toP d).hasDict = false
  | .non => by simp [toP, PyData.hasDict]
  | .bl _ => by simp [toP, PyData.hasDict]
  | .int _ => by simp [toP, PyData.hasDict]
  | .str _ => by simp [toP, PyData.hasDict]
  | .loc _ => by simp [toP, PyData.hasDict]
  | .fn _ => by simp [toP, PyData.hasDict]
  | .arr _ => by simp [toP, PyData.hasDict]
  | .tup xs => by simp only [toP, PyData.hasDict]; exact noDicts xs
  | .lst xs => by simp only [toP, PyData.hasDict]; exact noDicts xs
theorem noDicts : ∀ ds : List D, PyData.hasDictAll (toPs ds) = false
  | [] => by simp [toPs, PyData.hasDictAll]
  | d :: ds => by simp [toPs, PyData.hasDictAll, noDict d, noDicts ds]
end
def rRepr (K : PySem.W.Frag) : List V → Hp → VK → Prop := fun vs H Q => ∃ v d, vs = [v] ∧ Dp K H v (toP d) ∧ rprOk d = true ∧ Q (.str (reprS d)) H
theorem call_reprD (g : GX M k X) : CallR X (.builtin "repr") (rRepr X.K) := by
  intro pins s σ H vs us Q I rv h
  obtain ⟨v, d, rfl, hd, hr, q⟩ := h
  obtain ⟨u, rfl, ru⟩ := vals1 rv
  unfold rprOk at hr
  simp only [Bool.and_eq_true, decide_eq_true_eq] at hr
  obtain ⟨⟨h1, h2⟩, h3⟩ := hr
  have hz := lim_le h3
  obtain ⟨as, rd⟩ := Dp.reads I (toP d) v u hd ru
  have big : ∀ a, u = .ref a → wpAny (model X.prog X.w) X.A (call (.builtin "repr") [u]) (EP X pins σ Q) X.xe s := fun a e => by
    subst e
    refine repr_of_reads' rd h2 (PyData.noDict_hsm (noDict d)) g.gd ?_ (fun _ _ e => e) (fun h' t tk hk => ⟨.str (reprS d), H, I.kept (t' := tk) hk, ⟨t, rfl⟩, q⟩) hz
    have := (okD_lay d 64 h1).2
    have := g.u65
    omega
  cases d with
  | non =>
    have hd : Dp X.K H v .none := by simpa [toP] using hd
    cases hd; cases ru
    exact PySem.P.repr_of_none ⟨.str (reprS .non), H, I.tok _, ⟨_, by simp [reprS, toP, PyData.shown]; rfl⟩, q⟩
  | bl b =>
    have hd : Dp X.K H v (.bool b) := by simpa [toP] using hd
    cases hd; cases ru
    exact PySem.P.repr_of_bool ⟨.str (reprS (.bl b)), H, I.tok _, ⟨_, by simp [reprS, toP, PyData.shown]; rfl⟩, q⟩
  | int i =>
    have hd : Dp X.K H v (.int i) := by simpa [toP] using hd
    cases hd
    obtain ⟨t, rfl⟩ := ru
    have hb : i.natAbs.log2 < 1920 := by simpa [toP, PyData.showable] using h2
    exact PySem.P.repr_of_int hb ⟨.str (reprS (.int i)), H, I.tok _, ⟨_, by simp [reprS, toP, PyData.shown]; rfl⟩, q⟩
  | str x =>
    have hd : Dp X.K H v (.str x) := by simpa [toP] using hd
    cases hd
    obtain ⟨t, rfl⟩ := ru
    have hz' : (reprText x).length ≤ sizeLine := by simpa [reprS, toP, PyData.shown] using hz
    exact PySem.P.repr_of_str ⟨.str (reprS (.str x)), H, I.tok _, ⟨_, by simp [reprS, toP, PyData.shown]; rfl⟩, q⟩ hz'
  | tup xs =>
    have hd : Dp X.K H v (.tuple (toPs xs)) := by simpa [toP] using hd
    cases hd
    exact big _ ru
  | lst xs =>
    have hd : Dp X.K H v (.list (toPs xs)) := by simpa [toP] using hd
    cases hd
    exact big _ ru
  | loc n => simp [okD] at h1
  | fn n => simp [okD] at h1
  | arr n => simp [okD] at h1
theorem repr_ok (g : GX M k X) : CallOk M W X (.builtin "repr") oRepr := by
  refine ⟨_, call_reprD g, fun w fr env G σ H Q ds vs r hd h => ?_⟩
  unfold oRepr at h
  split at h
  · rename_i d
    obtain ⟨v, rfl, q⟩ := DVs.one_inv hd
    have dh := DH.of r q
    simp only at h
    generalize deref G d = d' at *
    obtain ⟨hb, h⟩ := guard_post (α := D) h
    have hb' := hb
    unfold rprOk at hb'
    simp only [Bool.and_eq_true] at hb'
    have := dh.dp r.cold hb'.1.1
    rw [← g.K] at this
    exact ⟨v, d', rfl, this, hb, Post.here h r _ (.str _)⟩
  · exact h.elim
end
end GL
/-! GL part 10: defs and their calls. -/
namespace GL
open PySem L2
abbrev FM := List D → Gh → R D
def PostC (M : Im) (w : Wd) (fr : List (Addr × HO)) (Q : VK) : R D → Prop
  | .ok d G' => ∀ w' v H', w.Le w' → RG M w' fr G' H' → DV M w' d v → Q v H'
  | _ => False
/-- a def of the program that means m -/
structure FnG (P : Program) (wo : World) (M : Im) (base : Heap) (k : Nat) (f : Addr) (fd : FuncData) (ps : List Str) (m : FM) : Prop where
  run : ∀ (A : Around) (outer : List Env) (s : Shared) (H : Hp) (args : Args) (us : List Value) (vs : List V) (w : Wd) (fr : List (Addr × HO)) (ds : List D) (G : Gh) (Q : VK), Room k A → A.guards = some [] → Env0 P wo M.K M.mg base A outer s H →
    BindsTo s fd args (ps.zip us) → Vals vs us → RG M w fr G H → DVs M w ds vs → PostC M w fr Q (m ds G) → codeAny (model P wo) A (.call (.ref f) args) (CR CX0 outer P wo H s Q fun _ _ _ => False) s
theorem FnG.mono {P : Program} {wo : World} {M : Im} {base : Heap} {j k : Nat} {f : Addr} {fd : FuncData} {ps : List Str} {m : FM} (F : FnG P wo M base j f fd ps m) (h : j ≤ k) : FnG P wo M base k f fd ps m :=
  ⟨fun A outer s H args us vs w fr ds G Q hr => F.run A outer s H args us vs w fr ds G Q (hr.mono h)⟩
def endR : SR → R D
  | .nx _ g => .ok .non g
  | .rt d g => .ok d g
  | .exc x g => .exc x g
  | _ => .bad
/-- what a def means: np parameters, n slots -/
def mFun (np n : Nat) (b : MS) : FM := fun ds g => if ds.length = np then endR (b (ds.map Sl.val ++ List.replicate (n - np) Sl.un) g) else .bad

/-- what stands fast through a law: the program, the world, its image, the base, the level -/
structure Cn where
  P : Program
  wo : World
  M : Im
  base : Heap
  k : Nat
/-- the names' places and kinds as the context has them -/
structure OkX (c : Cn) (N : List Str) (sc : Scope) (fnf : Str → Bool) (X : Cx) : Prop where
  g : GX c.M c.k X
  n : X.N = N
  s : X.env.scope = sc
  f : X.fn = fnf
  e : X.xe = fun _ _ => False
  p : X.prog = c.P
  w : X.w = c.wo
  b : X.base = c.base

theorem slr_start {M : Im} {w : Wd} {n : Nat} : ∀ {ds : List D} {vs : List V}, DVs M w ds vs → SlR M w [] (ds.map Sl.val ++ List.replicate n Sl.un) (vs.map some ++ List.replicate n none)
  | _, _, .nil => by
    induction n with
    | zero => exact .nil
    | succ n ih => simp only [List.map_nil, List.nil_append, List.replicate_succ] at ih ⊢; exact .un ih
  | _, _, .cons a b => .val a (slr_start b)

theorem fnG_of {P : Program} {wo : World} {M : Im} {base : Heap} {k : Nat} {f : Addr} {name qual : Str} {params : Arguments} {body : List Stmt} {scope : Scope} {dV kV doc pm cdv ct oc : Value} {an od : Option Addr}
    {osl : Array (Option Value)} {N ps : List Str} {b : MS} (lk : M.K.lookup f = some ⟨oc, od, .func (PySem.W.fnOf name qual params body scope dV kV doc pm an cdv ct), osl⟩) (hcd : PySem.W.codeIn M.K cdv qual = true) (S : FnScope N ps scope)
    (hbody : ∀ X, OkX ⟨P, wo, M, base, k⟩ N scope (fun _ => true) X → SSs M W0 X body b) :
    FnG P wo M base (k + 1) f (PySem.W.fnOf name qual params body scope dV kV doc pm an cdv ct) ps (mFun ps.length N.length b) := by
  refine ⟨fun A outer s H args us vs w fr ds G Q hr hg e0 hb r rg dvs h => ?_⟩
  unfold mFun at h
  by_cases hl' : ds.length = ps.length
  · rw [if_pos hl'] at h
    have hl : vs.length = ps.length := by rw [← dvs.length]; exact hl'
    have KX : M.K.In s.heap := e0.mod.kin.keeps fun b o e => (e0.bs b o e).1
    have lim : s.heap.NoLimit := e0.mod.nolimit.keeps fun b o e => (e0.bs b o e).1
    have hkind : ∀ y ∈ ps.zip us, scope.names.lookup y.1 = some .local ∨ (scope.names.lookup y.1 = some .cell ∧ ((cellsFrom (s.heap.objs.size + 1) scope.names []).lookup y.1).isSome = true) := fun ⟨n, v⟩ hy => by
      rcases S.par n (List.of_mem_zip hy).1 with q | q
      · exact .inl q
      · exact .inr ⟨q, PySem.W.cellsFrom_some _ _ _ (.inl q)⟩
    refine codeAny_call_function hr.depth (KX _ _ lk) rfl S.co S.gen rfl (PySem.W.codeRec_of KX hcd) (hb _ _ _ _ ?_)
    refine wpAny_newFunctionEnv_cells S.kind hkind fun env he s1 x => ?_
    subst he
    refine ⟨lim.keeps x.toInCall.keep, codeAny_func ?_⟩
    have hr' := hr.deeper (PyProof.Rows.envOfC qual scope s.heap.objs.size f cdv)
    obtain ⟨t, ht, hq⟩ := hbody (cxOf CX0 P wo M.K M.mg base N qual scope f cdv A outer s H fun _ _ _ => False).nox
      ⟨⟨rfl, rfl, rfl, S.nd, hr', hg⟩, rfl, rfl, rfl, rfl, rfl, rfl, rfl⟩
    have I : Inv (cxOf CX0 P wo M.K M.mg base N qual scope f cdv A outer s H fun _ _ _ => False) [] (L2.start N vs) H s1 := inv_start S hr.hd e0 hl r x
    have rs : RS M w fr (ds.map Sl.val ++ List.replicate (N.length - ps.length) Sl.un) G (L2.start N vs) H := by
      refine ⟨[], rg, ?_⟩
      unfold L2.start
      rw [hl]
      exact slr_start dvs
    have key := hq w fr _ G (L2.start N vs) H { nx := fun _ H' => Q .non H', rt := Q } rs (by
      revert h
      cases b (ds.map Sl.val ++ List.replicate (N.length - ps.length) Sl.un) G with
      | nx env' G' => exact fun h w' σ' H' l r' => h w' .non H' l r'.rg .non
      | rt d G' => exact fun h => h
      | bk _ _ => exact fun h => h.elim
      | ct _ _ => exact fun h => h.elim
      | exc _ _ => exact fun h => h.elim
      | bad => exact fun h => h.elim)
    refine wpAny_mono (ht.nox.run [] s1 (L2.start N vs) H _ I key) (fun fl s' hs => ?_) fun e s' hs => hs
    have fin : ∀ {σ' : L2.St} {H' : Hp} {v : V} {u : Value}, Inv (cxOf CX0 P wo M.K M.mg base N qual scope f cdv A outer s H fun _ _ _ => False) [] σ' H' s' → RelV v u → Q v H' → CE outer P wo H s Q u s' :=
      fun {σ' H' v u} J rv q => ⟨v, H', J.os, J.bare, J.base, J.hok, rv, q⟩
    cases fl with
    | ret u =>
      obtain ⟨v, σ', H', J, rv, q⟩ := hs
      exact fin J rv q
    | next =>
      obtain ⟨σ', H', J, q⟩ := hs
      exact fin (v := V.non) (u := Value.none) J rfl q
    | brk =>
      obtain ⟨_, _, _, q⟩ := hs
      exact False.elim q
    | cont =>
      obtain ⟨_, _, _, q⟩ := hs
      exact False.elim q
  · rw [if_neg hl'] at h; exact h.elim

/-! ### calls -/
/-- arguments put in the parameters' order: places in the written ones, the keywords' ones, the defaults -/
def permL {α : Type} (pm : List Nat) (xs : List α) : List α := pm.filterMap fun i => xs[i]?
theorem permL_DVs {M : Im} {w : Wd} {ds : List D} {vs : List V} (h : DVs M w ds vs) : ∀ pm : List Nat, DVs M w (permL pm ds) (permL pm vs)
  | [] => .nil
  | i :: pm => by
    have ih := permL_DVs h pm
    unfold permL at ih ⊢
    simp only [List.filterMap_cons]
    cases e : ds[i]? with
    | none =>
      have : vs[i]? = none := by
        rw [List.getElem?_eq_none_iff] at e ⊢; rw [← h.length]; exact e
      rw [this]; exact ih
    | some d =>
      obtain ⟨v, e2, e3⟩ := h.get e
      rw [e2]
      exact .cons e3 ih
theorem permL_Vals {vs : List V} {us : List Value} (h : Vals vs us) : ∀ pm : List Nat, Vals (permL pm vs) (permL pm us)
  | [] => .nil
  | i :: pm => by
    have ih := permL_Vals h pm
    unfold permL at ih ⊢
    simp only [List.filterMap_cons]
    cases e : vs[i]? with
    | none => rw [Vals.none_of h e]; exact ih
    | some d =>
      obtain ⟨v, e2, e3⟩ := h.get e
      rw [e2]
      exact .cons e3 ih
/-- how a call with n written arguments and keywords ks binds; dd: the defaults used -/
structure Bnd (M : Im) (fd : FuncData) (ps : List Str) (n : Nat) (ks : List Str) (pm : List Nat) (dd : List D) : Prop where
  ex : ∃ (dv : List V) (du : List Value), Vals dv du ∧ (∀ w, DVs M w dd dv) ∧ ∀ (s : Shared) (us ws : List Value), M.K.In s.heap → us.length = n → ws.length = ks.length → BindsTo s fd ⟨us, ks.zip ws⟩ (ps.zip (permL pm (us ++ ws ++ du)))
theorem Bnd.plain {M : Im} {fd : FuncData} {ps ks : List Str} {n : Nat} {pm : List Nat} (h : ∀ us ws : List Value, us.length = n → ws.length = ks.length → bindArgs fd ⟨us, ks.zip ws⟩ = pure (ps.zip (permL pm (us ++ ws ++ [])))) : Bnd M fd ps n ks pm [] :=
  ⟨[], [], .nil, fun _ => .nil, fun s us ws _ h1 h2 => .of_eq (h us ws h1 h2)⟩
/-- keywords -/
def SK (M : Im) (W : XW) (X : Cx) (ks : List Keyword) (m : ML) : Prop := ∃ t, PK X ks t ∧ ∀ w fr env G σ H Q, RS M w fr env G σ H → Post M W fr env σ w (PL' M Q) (m env G) → t σ H Q
section
variable {M : Im} {W : XW} {X : Cx} {k j n : Nat} {e : Expr} {es : List Expr} {kws : List Keyword} {ml mk : ML} {ma : ME} {x : Str} {p pos kpos : Pos} {f : Addr} {fd : FuncData} {ps ks : List Str} {m : FM} {pm : List Nat} {dd : List D} {nm : Option Str}
theorem sk_nil : SK M W X [] lNil := ⟨_, pk_nil, fun w fr env G σ H Q rs h => Post.here h rs [] .nil⟩
theorem sk_cons (ha : SE M W X e ma) (hr : SK M W X kws mk) : SK M W X (⟨nm, e, kpos⟩ :: kws) (lCons ma mk) := by
  obtain ⟨ta, a1, a2⟩ := ha
  obtain ⟨tb, b1, b2⟩ := hr
  refine ⟨_, pk_cons a1 b1, fun w fr env G σ H Q rs h => ?_⟩
  refine a2 w fr env G σ H _ rs ((Post.bind h).imp fun x w1 G1 H1 l1 r1 h1 vx dx => ?_)
  exact b2 w1 fr env G1 σ H1 _ r1 ((Post.bind h1).imp fun xs w2 G2 H2 l2 r2 h2 vs dvs => Post.here h2 r2 _ (.cons (dx.up l2) dvs))
/-- an exception is not looked at -/
def noX {α : Type} : R α → R α
  | .ok a g => .ok a g
  | _ => .bad
@[simp] theorem noX_ok {α : Type} (a : α) (g : Gh) : noX (R.ok a g) = .ok a g := rfl
/-- f(..): l the written arguments, lk the keywords' -/
def eCall (m : FM) (n : Nat) (nk : Nat) (pm : List Nat) (dd : List D) (l lk : ML) : ME := fun env g => (l env g).bind fun ds g1 => (lk env g1).bind fun es g2 => if ds.length = n ∧ es.length = nk then noX (m (permL pm (ds ++ es ++ dd)) g2) else .bad

/-- the callee runs -/
theorem run_G (F : FnG X.prog X.w M X.base j f fd ps m) (hr : Room j X.A) (g : GX M k X) (hb : Bnd M fd ps n ks pm dd) {pins : List (Addr × Obj)} {σ : L2.St} {H : Hp} {s : Shared} {Q : VK} {us ws : List Value} {vs zs : List V} {w : Wd} {fr : List (Addr × HO)} {env : Env'} {G : Gh} {ds es' : List D}
    (I : Inv X pins σ H s) (r : Vals vs us) (rz : Vals zs ws) (l1 : ds.length = n) (l2 : es'.length = ks.length) (rs : RS M w fr env G σ H) (d1 : DVs M w ds vs) (d2 : DVs M w es' zs)
    (h : Post M W fr env σ w (PE' M Q) (noX (m (permL pm (ds ++ es' ++ dd)) G))) : wpAny (model X.prog X.w) X.A (call (.ref f) us (ks.zip ws)) (EP X pins σ Q) X.xe s := by
  obtain ⟨dv, du, q1, q2, q3⟩ := hb.ex
  have rv := permL_Vals ((r.append rz).append q1) pm
  have rd := permL_DVs ((d1.append d2).append (q2 w)) pm
  obtain ⟨os, rg, sl⟩ := rs
  have e0 := I.env0
  rw [g.K, g.mg] at e0
  have kin := I.kIn
  rw [g.K] at kin
  refine wpAny_call (codeAny_mono (F.run X.A X.stack s H ⟨us, ks.zip ws⟩ _ _ w (os ++ fr) _ G Q hr g.gd e0 (q3 s us ws kin ?_ ?_) rv rg rd ?_) fun r s' hq => ?_)
  · rw [← r.length, ← d1.length]; exact l1
  · rw [← rz.length, ← d2.length]; exact l2
  · revert h
    cases m (permL pm (ds ++ es' ++ dd)) G with
    | ok d G' => exact fun h w' v H' l rg' dv => h w' H' l ⟨os, rg', sl.up l⟩ v dv
    | exc x G' => exact fun h => h
    | bad => exact fun h => h
  · cases r with
    | error e => exact False.elim hq
    | ok fl =>
      cases fl with
      | ret u => exact I.after hq
      | next => exact False.elim hq
      | brk => exact False.elim hq
      | cont => exact False.elim hq
theorem wpAny_of_bind_pure {α β : Type} {Mo : Model} {A : Around} {E : Value → Shared → Prop} {s : Shared} {t : Sem α} {f : α → β} {Q : β → Shared → Prop} (h : wpAny Mo A (t >>= fun a => pure (f a)) Q E s) : wpAny Mo A t (fun a s' => Q (f a) s') E s := fun Γ p hΓ => by
  have := h Γ p hΓ
  rw [Sem.wp_bind'] at this
  exact this
/-- a global name that is a def of the program, called -/
theorem se_call (F : FnG X.prog X.w M X.base j f fd ps m) (hj : j ≤ k) (g : GX M k X) (hb : Bnd M fd ps n ks pm dd) (hg : Gl X x) (hm : M.mg x = some (.ref f)) (hk : PySem.W.keepIn M.K (.ref f) = true)
    (ha : SA M W X es ml) (hkw : SK M W X kws mk) (hdb : (x == ("__debug__" : Str)) = false)
    (hst : starEach es X.env = es.map fun e => (false, eval e X.env)) (hks : kws.map (·.arg) = ks.map some) :
    SE M W X (.Call (.Name x p) es kws pos) (eCall m n ks.length pm dd ml mk) := by
  obtain ⟨t, a1, a2⟩ := ha
  obtain ⟨u, b1, b2⟩ := hkw
  have hr := g.room.mono hj
  have kk : PySem.W.keepIn X.K (.ref f) = true := by rw [g.K]; exact hk
  have mm : X.mg x = some (.ref f) := by rw [g.mg]; exact hm
  -- the shapes
  have ek : keywordEach kws X.env = kws.map fun q => (q.arg, eval q.value X.env) := by
    clear hks b1 b2
    induction kws with
    | nil => rfl
    | cons q r ih => obtain ⟨a, v, pp⟩ := q; unfold keywordEach; rw [ih]; rfl
  have fk : (backToKw pos (keywordEach kws X.env)).filterMap (·.1) = ks := by
    rw [ek]; unfold backToKw; rw [List.map_map, List.filterMap_map]
    have : (kws.filterMap fun q => q.arg) = (kws.map (·.arg)).filterMap (fun o => o) := by rw [List.filterMap_map]; rfl
    show (kws.filterMap fun q => q.arg) = ks
    rw [this, hks, List.filterMap_map]
    exact List.filterMap_some
  have hall : (backToKw pos (keywordEach kws X.env)).all (·.1.isSome) = true := by
    rw [ek]; unfold backToKw
    rw [List.map_map, List.all_map]
    rw [List.all_eq_true]
    intro q hq
    have : q.arg ∈ kws.map (·.arg) := List.mem_map.mpr ⟨q, hq, rfl⟩
    rw [hks] at this
    obtain ⟨y, _, e⟩ := List.mem_map.mp this
    show q.arg.isSome = true
    rw [← e]; rfl
  have hnone : (backToKw pos (keywordEach kws X.env)).any (·.1.isNone) = false := by
    rw [List.any_eq_false]
    intro q hq
    have := List.all_eq_true.mp hall q hq
    cases e : q.1 with
    | none => rw [e] at this; cases this
    | some _ => simp
  have hst' : ∀ l : List Expr, starEach l X.env = (l.map fun e => (false, eval e X.env)) → (backTo pos (starEach l X.env)).any (·.1) = false := fun l e => by
    rw [e]; unfold backTo; rw [List.map_map, List.any_map, List.any_eq_false]; intro q _; simp
  refine ⟨fun σ H Q => t σ H fun vs H1 => u σ H1 fun zs H2 => ∃ w fr env G ds es', RS M w fr env G σ H2 ∧ DVs M w ds vs ∧ DVs M w es' zs ∧ ds.length = n ∧ es'.length = ks.length ∧ Post M W fr env σ w (PE' M Q) (noX (m (permL pm (ds ++ es' ++ dd)) G)), ⟨fun pins s σ H Q I h => ?_⟩, fun w fr env G σ H Q rs h => ?_⟩
  · refine wpAny_Call_Name_kw (ld_glob I hg mm ?_ hdb)
    cases es with
    | nil =>
      refine PySem.W.callWith_KW0 (h₀ := X.base) I.ok.mod.kin kk hall ?_ (by rw [hnone]; rfl)
      have h0 : wpAny (model X.prog X.w) X.A (pure [] : Sem (List Value)) _ X.xe s := a1.run pos pins s σ H _ I h
      have h1 := wpAny_bind (m := (pure [] : Sem (List Value))) (f := fun us => evalAll ((backToKw pos (keywordEach kws X.env)).map (·.2)) >>= fun ws => pure (us, ws)) (Q := fun (p : List Value × List Value) s2 => X.K.In s2.heap ∧ wpAny (model X.prog X.w) X.A (call (.ref f) p.1 (ks.zip p.2)) (EP X pins σ Q) X.xe s2)
        (thn h0 fun us s1 ⟨vs, H1, I1, r, q⟩ => wpAny_bind (thn (b1.run pos pins s1 σ H1 _ I1 q) fun ws s2 ⟨zs, H2, I2, rz, w, fr, env, G, ds, es', rs, d1, d2, l1, l2, h⟩ => wpAny_pure ⟨I2.kIn, run_G F hr g hb I2 r rz l1 l2 rs d1 d2 h⟩))
      rw [pure_bind] at h1
      rw [fk]
      exact wpAny_of_bind_pure h1
    | cons e er =>
      have he : starEach (e :: er) X.env = (false, eval e X.env) :: starEach er X.env := by
        have : starEach er X.env = er.map fun e => (false, eval e X.env) := by
          cases e <;> first | exact (List.cons.inj hst).2 | (exfalso; have := (List.cons.inj hst).1; cases (Prod.mk.inj this).1)
        rw [this]; exact hst
      refine PySem.W.callWith_KW (h₀ := X.base) I.ok.mod.kin kk hall (thn (a1.run pos pins s σ H _ I h) fun us s1 ⟨vs, H1, I1, r, q⟩ => ?_) (by rw [hst' _ hst, hnone]; rfl) he
      refine thn (b1.run pos pins s1 σ H1 _ I1 q) fun ws s2 ⟨zs, H2, I2, rz, w, fr, env, G, ds, es', rs, d1, d2, l1, l2, h⟩ => ⟨I2.kIn, ?_⟩
      rw [fk]
      exact run_G F hr g hb I2 r rz l1 l2 rs d1 d2 h
  · refine a2 w fr env G σ H _ rs ((Post.bind h).imp fun ds w1 G1 H1 l1 r1 h1 vs d1 => ?_)
    refine b2 w1 fr env G1 σ H1 _ r1 ((Post.bind h1).imp fun es' w2 G2 H2 l2 r2 h2 zs d2 => ?_)
    by_cases hl : ds.length = n ∧ es'.length = ks.length
    · rw [if_pos hl] at h2
      exact ⟨w2, fr, env, G2, ds, es', r2, d1.up l2, d2, hl.1, hl.2, h2⟩
    · rw [if_neg hl] at h2; exact h2.elim
end
end GL
/-! GL part 11: a law's end. -/
namespace GL
open PySem L2 PyProof.Rows

/-- the abstract heap at the law's entry: the script alone, or nothing where it is a written object -/
def scriptH (K : PySem.W.Frag) (a : Addr) (o : Obj) (xs : List V) : Hp := fun b => match K.lookup a with
  | some _ => none
  | none => if b = a then some (.frz o (.lst xs)) else none

/-- the law's def, called with the script -/
theorem law_G {P : Program} {wo : World} {M : Im} {mb : Str → Option Value} {k : Nat} {fa a : Addr} {fd : FuncData} {x : Str} {m : FM} {s : Shared} {vs : List Value} {ns : List Int}
    (hK : M.K.In s.heap) (hG : s.heap.Ns mainGlobals M.mg) (hB : s.heap.Ns builtinsNs mb) (hBB : ∀ y : Str, y ≠ "__name__" → mb y = bootBuiltins y) (hL : s.heap.NoLimit) (hgen : s.gens = #[])
    (ha : s.heap.get? a = some { cls := .type "list", data := .seq vs.toArray }) (hi : IntsAre vs ns) (hn : ns.length ≤ sizeLine) (hr : Room k callerA)
    (F : ∀ base : Heap, M.K.In base → base.Ns mainGlobals M.mg → FnG P wo M base k fa fd [x] m) (hb : ∀ (t : Shared) (u : Value), BindsTo t fd ⟨[u], []⟩ [(x, u)])
    (hm : ∃ G', m [.arr ns] [] = .ok (.bl true) G') :
    codeAny (model P wo) callerA (.call (.ref fa) ⟨[.ref a], []⟩) (fun r s' => r = .ok (.ret (.bool true)) ∧ OldK s.heap s'.heap ∧ s'.os = s.os ∧ AllBare s'.gens) s := by
  obtain ⟨G', hm⟩ := hm
  have hv := vals_ints hi
  let ob : Obj := { cls := .type "list", data := .seq vs.toArray }
  let H : Hp := scriptH M.K a ob (ns.map V.int)
  have shape : ∀ b u, H b = some u → b = a ∧ u = .frz ob (.lst (ns.map V.int)) ∧ M.K.lookup a = none := by
    intro b u e
    have e : scriptH M.K a ob (ns.map V.int) b = some u := e
    unfold scriptH at e
    cases q : M.K.lookup a with
    | some _ => rw [q] at e; cases e
    | none =>
      rw [q] at e
      by_cases hba : b = a
      · simp only [hba, if_true] at e; cases e; exact ⟨hba, rfl, rfl⟩
      · simp only [hba, if_false] at e; cases e
  have okH : HOk P wo H s.heap := by
    intro b u e
    obtain ⟨rfl, rfl, _⟩ := shape b u e
    exact ⟨ha, by rw [List.length_map]; exact hn, vs, _, hv, ha⟩
  have sq : SqL M.K H a (ns.map V.int) := by
    cases q : M.K.lookup a with
    | none =>
      refine .inl (.inr ⟨ob, ?_⟩)
      show scriptH M.K a ob (ns.map V.int) a = _
      unfold scriptH
      rw [q]
      exact if_pos rfl
    | some o =>
      have e := hK a o q
      rw [ha] at e
      cases e
      exact .inr ⟨_, vs.toArray, _, q, rfl, rfl, rfl, by rw [List.size_toArray, hi.length]; exact hn, by simpa using hv⟩
  have dictFree : ∀ {b : Addr} {o : Obj} {es : Array DictEntry} {ep : Nat}, s.heap.get? b = some o → o.data = .dict es ep → H b = none := by
    intro b o es ep e d
    cases q : H b with
    | none => rfl
    | some u =>
      obtain ⟨rfl, _, _⟩ := shape b u q
      rw [ha] at e
      cases e
      cases d
  have nsAt : ∀ {b : Addr} {f : Str → Option Value}, s.heap.Ns b f → (hidT s.heap H).Ns b f := by
    intro b f n
    obtain ⟨o, es, ep, e, d, rest⟩ := n
    exact ⟨o, es, ep, hidT_get e (dictFree e d), d, rest⟩
  have inB : M.K.In (hidT s.heap H) := by
    intro b o e
    refine hidT_get (hK b o e) ?_
    cases q : H b with
    | none => rfl
    | some u =>
      obtain ⟨rfl, _, z⟩ := shape b u q
      rw [z] at e; cases e
  have md : Mod M.K M.mg (hidT s.heap H) := by
    obtain ⟨mc, c1, c2⟩ := hL
    exact ⟨inB, nsAt hG, ⟨mb, nsAt hB, hBB⟩, mc, nsAt c1, c2⟩
  have env0 : Env0 P wo M.K M.mg (hidT s.heap H) callerA [] s H := by
    refine ⟨rfl, md, fun b o e => of_hidT e, Nat.le_of_eq (hidT_size _ _), trivial, fun b q => ?_, okH, .of_eq hgen⟩
    have q : b ∈ ([] : List Addr) := q
    cases q
  let w0 : Wd := ⟨H, []⟩
  have rg : RG M w0 [] [] H := by
    refine ⟨fun _ _ e => e, rfl, fun n o b e => ?_, fun p q => ?_, List.nodup_nil, fun b q => ?_⟩
    · simp at e
    · cases q
    · have q : b ∈ ([] : List Addr) := q
      cases q
  have post : PostC M w0 [] (fun v _ => v = .bl true) (m [.arr ns] []) := by
    rw [hm]
    intro w' v H' _ _ dv
    cases dv
    rfl
  have run := (F _ inB (nsAt hG)).run callerA [] s H ⟨[.ref a], []⟩ [.ref a] [.ref a] w0 [] [.arr ns] [] _ hr rfl env0 (hb s (.ref a)) (.cons rfl .nil) rg (.cons (.arr sq) .nil) post
  refine codeAny_mono run fun r s' h => ?_
  cases r with
  | error e => exact False.elim h
  | ok fl =>
    cases fl <;> try exact False.elim h
    obtain ⟨v, H', os, bare, un, hok', rv, q⟩ := h
    have q : v = .bl true := q
    subst q
    cases rv
    refine ⟨rfl, OldK.of_keep fun b o e => ?_, os, bare⟩
    cases z : H b with
    | none => exact un.keep b o e z (by intro q; have q : b ∈ ([] : List Addr) := q; cases q) (by simp)
    | some u =>
      obtain ⟨rfl, rfl, _⟩ := shape b u z
      have z2 := un.frzs b ob _ z
      obtain ⟨e2, _⟩ := hok' b _ z2
      rw [ha] at e
      cases e
      exact e2

/-- the goal that the head leaves -/
theorem walk_G {l : PySem.W.OpenLaw} {n k : Nat} {q : Program} {loose : List Str} {XP : (Str → Option Value) → Heap → Prop} {YP : World → Heap → Prop} {d : DefRec} {K : Params → PySem.W.Frag} {x : Str} {m : FM}
    (hn : l.most = some n) (hz : n ≤ sizeLine) (hdf : d.params.defaults = []) (hr : Room k callerA) (hY : ∀ (w : World) (h : Heap), YP w h → (K w.params).In h)
    (F : ∀ (w : World) (mg : Str → Option Value) (fa : Addr) (h : Heap), (K w.params).In h → h.Ns mainGlobals mg → mg d.name = some (.ref fa) →
      ∃ (fs : Nat → Option Addr) (fd : FuncData), (∀ (s : Shared) (u : Value), BindsTo s fd ⟨[u], []⟩ [(x, u)]) ∧
        ∀ base : Heap, (K w.params).In base → base.Ns mainGlobals mg → FnG l.prog w ⟨K w.params, mg, fs⟩ base k fa fd [x] m)
    (hm : ∀ ns : List Int, ns.length ≤ n → ∃ G', m [.arr ns] [] = .ok (.bl true) G') :
    PySem.W.WalkO q loose XP YP l.row.toRowW d [] (fun f vs => PySem.call f vs) := by
  refine Att.attach_call hn hdf fun w s₀ s₁ mg mb fa o pm cd doc a vs ns G Y ho hd hcd hmg hobj hints hlen hg => ?_
  obtain ⟨fs, fd, hb, hF⟩ := F w mg fa _ (hY w _ Y) G.T.g hmg
  exact law_G (M := ⟨K w.params, mg, fs⟩) (hY w _ Y) G.T.g G.T.b G.T.builtins G.T.nolimit hg hobj hints (Nat.le_trans hlen hz) hr hF hb (hm ns hlen)
end GL
/-! GL part 12: the rules as derivations use them: side conditions by looks at the names. -/
namespace GL
open PySem L2 PyProof.Rows
def isVis : Option NameKind → Bool
  | some .local | some .cell | some .free => true
  | _ => false
def chkV (N : List Str) (sc : Scope) (i : Nat) (x : Str) : Bool := decide (N[i]? = some x) && isVis (sc.names.lookup x) && !(x == ("__debug__" : Str)) && !(x == ("__classdict__" : Str))
def chkG (sc : Scope) (x : Str) : Bool := decide (sc.names.lookup x = some .globalImplicit) && !(x == ("__debug__" : Str)) && !decide (x = ("__name__" : Str))
def chkT (N : List Str) (sc : Scope) (fnf : Str → Bool) (i : Nat) (x : Str) : Bool := decide (N[i]? = some x) && (decide (sc.names.lookup x = some .local) || (decide (sc.names.lookup x = some .cell) && fnf x))
/-- whether a comprehension given to a name is laid by the short way -/
def chkSw (sc : Scope) (y : Str) (py pos : Pos) (scope : Scope) : Bool := decide (sc.names.lookup y = some .local) && (py.line == pos.line) && !(scope.names.any fun p => p.1 == y && (p.2 == .local || p.2 == .cell))
def isFnK : ScopeKind → Bool
  | .function => true
  | _ => false
theorem isFnK_eq {k : ScopeKind} (h : isFnK k = true) : k = .function := by cases k <;> first | rfl | cases h
abbrev allT : Str → Bool := fun _ => true

section
variable {c : Cn} {W : XW} {N : List Str} {sc : Scope} {fnf : Str → Bool} {X : Cx} {a b d e : Expr} {es : List Expr} {ma mb mc : ME} {na nb nc : MT} {ml mk : ML} {pos p pos' : Pos} {x y : Str} {i j : Nat}
theorem chkG_gl (o : OkX c N sc fnf X) (h : chkG sc x = true) : Gl X x ∧ (x == ("__debug__" : Str)) = false ∧ x ≠ "__name__" := by
  unfold chkG at h
  simp only [Bool.and_eq_true, decide_eq_true_eq, Bool.not_eq_true', decide_eq_false_iff_not] at h
  refine ⟨?_, h.1.2, h.2⟩
  unfold Gl Env.kindOf
  rw [o.s]; exact h.1.1
theorem w_lv (o : OkX c N sc fnf X) (i : Nat) (h : chkV N sc i x = true) : SE c.M W X (.Name x pos) (eLv i) := by
  unfold chkV at h
  simp only [Bool.and_eq_true, decide_eq_true_eq, Bool.not_eq_true'] at h
  refine se_lv (by rw [o.n]; exact h.1.1.1) ?_ h.1.2 h.2
  unfold Vis
  rw [o.s]
  have := h.1.1.2
  cases q : sc.names.lookup x with
  | none => rw [q] at this; cases this
  | some k => rw [q] at this; cases k <;> simp [isVis] at this ⊢
theorem w_glob (o : OkX c N sc fnf X) {dd : D} {v : V} {u : Value} (h : chkG sc x = true) (hm : c.M.mg x = some u) (r : RelV v u) (hv : ∀ w, DV c.M w dd v) : SE c.M W X (.Name x pos) (eC dd) :=
  se_glob o.g (chkG_gl o h).1 hm r hv (chkG_gl o h).2.1
theorem w_bin (o : OkX c N sc fnf X) {op : Operator} (ha : SE c.M W X a ma) (hb : SE c.M W X b mb) : SE c.M W X (.BinOp a op b pos) (eBin op ma mb) := se_bin o.g ha hb
theorem w_cmp (o : OkX c N sc fnf X) {op : CmpOp} (ha : SE c.M W X a ma) (hb : SE c.M W X b mb) (hm : behindInMarks op b = false) : SE c.M W X (.Compare a [op] [b] pos) (eCmp op ma mb) := se_cmp o.g ha hb hm
theorem w_tcmp (o : OkX c N sc fnf X) {op : CmpOp} (ha : SE c.M W X a ma) (hb : SE c.M W X b mb) (hm : behindInMarks op b = false) : ST c.M W X (.Compare a [op] [b] pos) (tV (eCmp op ma mb)) := st_cmp o.g ha hb hm
theorem w_chain (o : OkX c N sc fnf X) {op op' : CmpOp} (ha : SE c.M W X a ma) (hb : SE c.M W X b mb) (hc : SE c.M W X d mc) (hm : lastMarks [op, op'] [b, d] = false) : SE c.M W X (.Compare a [op, op'] [b, d] pos) (eChain op op' ma mb mc) := se_chain o.g ha hb hc hm
theorem w_tchain (o : OkX c N sc fnf X) {op op' : CmpOp} (ha : SE c.M W X a ma) (hb : SE c.M W X b mb) (hc : SE c.M W X d mc) (hm : lastMarks [op, op'] [b, d] = false) : ST c.M W X (.Compare a [op, op'] [b, d] pos) (tV (eChain op op' ma mb mc)) := st_chain o.g ha hb hc hm
theorem w_neg (o : OkX c N sc fnf X) (ha : SE c.M W X a ma) : SE c.M W X (.UnaryOp .USub a pos) (eNeg ma) := se_neg o.g ha
theorem w_sub (o : OkX c N sc fnf X) (ha : SE c.M W X a ma) (hb : SE c.M W X b mb) (hs : PlainIx b) : SE c.M W X (.Subscript a b pos) (eSub ma mb) := se_sub o.g ha hb hs

/-! ### statements -/
theorem chkT_of (o : OkX c N sc fnf X) (h : chkT N sc fnf i x = true) : X.N[i]? = some x ∧ Loc X.env.scope x ∧ (X.fn x = true ∨ X.env.scope.names.lookup x = some .local) := by
  unfold chkT at h
  simp only [Bool.and_eq_true, Bool.or_eq_true, decide_eq_true_eq] at h
  refine ⟨by rw [o.n]; exact h.1, ?_, ?_⟩
  · unfold L2.Loc
    rw [o.s]
    rcases h.2 with q | q
    · exact .inl q
    · exact .inr q.1
  · rcases h.2 with q | q
    · exact .inr (by rw [o.s]; exact q)
    · exact .inl (by rw [o.f]; exact q.2)
theorem w_set (o : OkX c N sc fnf X) (i : Nat) (h : chkT N sc fnf i x = true) (ha : SE c.M W X a ma) (hs : swapsWith a (some (.Name x pos')) pos.line X.env = pure false) : SS c.M W X (.Assign [.Name x pos'] a pos) (sSet i ma) :=
  ss_set o.g (chkT_of o h).1 (chkT_of o h).2.1 ha hs (chkT_of o h).2.2
theorem w_setOwn (o : OkX c N sc fnf X) (i : Nat) (h : chkT N sc fnf i x = true) (ha : SF c.M W X a ml) (hs : swapsWith a (some (.Name x pos')) pos.line X.env = pure false) : SS c.M W X (.Assign [.Name x pos'] a pos) (sSetOwn i ml) :=
  ss_setOwn o.g (chkT_of o h).1 (chkT_of o h).2.1 ha hs (chkT_of o h).2.2
theorem w_name (o : OkX c N sc fnf X) (i : Nat) (h : chkT N sc fnf i x = true) : SG c.M X (.Name x pos) [i] (gNm i) :=
  sg_name o.g (chkT_of o h).1 (chkT_of o h).2.1 (chkT_of o h).2.2
theorem w_tup (o : OkX c N sc fnf X) {kk n : Nat} {m : MGs} {ts : List Nat} (h : SGs c.M X es ts m) (hn : (assignEach es X.env).length = n) (hst : (assignEach es X.env).findIdx? (·.1) = none) : SG c.M X (.Tuple es kk pos) ts (gTp n m) := sg_tup o.g h hn hst
theorem w_par (o : OkX c N sc fnf X) (i j : Nat) {px py pt : Pos} {kt k2 pt2} (hi : chkT N sc fnf i x = true) (hj : chkT N sc fnf j y = true) (hij : i ≠ j) (hx : decide (sc.names.lookup x = some .local) = true) (hy : decide (sc.names.lookup y = some .local) = true) (ha : SA c.M W X [a, b] ml)
    (hw : swappedStores [.Tuple [.Name x px, .Name y py] kt pt] (.Tuple [a, b] k2 pt2) X.env = pure (some [x, y]))
    (hs : swapsWithSole [.Tuple [.Name x px, .Name y py] kt pt] (.Tuple [a, b] k2 pt2) pos.line X.env = pure false) :
    SS c.M W X (.Assign [.Tuple [.Name x px, .Name y py] kt pt] (.Tuple [a, b] k2 pt2) pos) (sPar i j ml) :=
  ss_par o.g (chkT_of o hi).1 (chkT_of o hj).1 hij (by rw [o.s]; exact of_decide_eq_true hx) (by rw [o.s]; exact of_decide_eq_true hy) ha hw hs
theorem passes (o : OkX c N sc fnf X) : PassesOwn (model X.prog X.w) X.A X.env X.xe := by
  rw [o.e]; exact PassesOwn.never
theorem w_while (o : OkX c N sc fnf X) {body : List Stmt} {s1 : MS} (hc : ST c.M W X a na) (hb : SSs c.M W X body s1) : SS c.M W X (.While a body [] pos) (sWhile na s1) := ss_while (passes o) hc hb
theorem w_for (o : OkX c N sc fnf X) {tg it : Expr} {body : List Stmt} {s1 : MS} {mi : MI} {mg : MG} {ts : List Nat} (hi : SI c.M W X tg it mi) (hg : SG c.M X tg ts mg) (hb : SSs c.M W X body s1) (hs : ∀ x, foldedSetIterable it X.env x = pure x) :
    SS c.M W X (.For tg it body [] pos) (sFor mi mg s1) := ss_for o.g (passes o) hi hg hb hs
theorem w_ival (o : OkX c N sc fnf X) {tg : Expr} (ha : SE c.M W X a ma) : SI c.M W X tg a (iV ma) := si_val o.g ha
theorem w_range1 (o : OkX c N sc fnf X) {tg : Expr} (h : chkG sc "range" = true) (hm : c.M.mg "range" = none) (ha : SE c.M W X a ma) (hs : starEach [a] X.env = [(false, eval a X.env)]) : SI c.M W X tg (.Call (.Name "range" p) [a] [] pos) (iRange1 ma) :=
  si_range1 o.g (chkG_gl o h).1 hm ha hs
theorem w_range2 (o : OkX c N sc fnf X) {tg : Expr} (h : chkG sc "range" = true) (hm : c.M.mg "range" = none) (ha : SE c.M W X a ma) (hb : SE c.M W X b mb) (hs : starEach [a, b] X.env = [(false, eval a X.env), (false, eval b X.env)]) (hs2 : starEach [b] X.env = [(false, eval b X.env)]) : SI c.M W X tg (.Call (.Name "range" p) [a, b] [] pos) (iRange2 ma mb) :=
  si_range2 o.g (chkG_gl o h).1 hm ha hb hs hs2

/-! ### built-in functions -/
theorem bt_abs : bootBuiltins "abs" = some (.builtin "abs") := by decide +kernel
theorem bt_int : bootBuiltins "int" = some (.type "int") := by decide +kernel
theorem bt_len : bootBuiltins "len" = some (.builtin "len") := by decide +kernel
theorem bt_min : bootBuiltins "min" = some (.builtin "min") := by decide +kernel
theorem bt_max : bootBuiltins "max" = some (.builtin "max") := by decide +kernel
theorem bt_sum : bootBuiltins "sum" = some (.builtin "sum") := by decide +kernel
theorem bt_all : bootBuiltins "all" = some (.builtin "all") := by decide +kernel
theorem bt_any : bootBuiltins "any" = some (.builtin "any") := by decide +kernel
theorem bt_repr : bootBuiltins "repr" = some (.builtin "repr") := by decide +kernel
theorem bt_list : bootBuiltins "list" = some (.type "list") := by decide +kernel
theorem bt_tuple : bootBuiltins "tuple" = some (.type "tuple") := by decide +kernel
theorem bt_sorted : bootBuiltins "sorted" = some (.builtin "sorted") := by decide +kernel
theorem w_bi (o : OkX c N sc fnf X) {bid : String} {f : List D → Gh → R D} (hc : CallOk c.M W X (.builtin bid) f) (hv : bootBuiltins x = some (.builtin bid)) (h : chkG sc x = true) (hm : c.M.mg x = none) (ha : SA c.M W X (e :: es) ml)
    (he : starEach (e :: es) X.env = (false, eval e X.env) :: starEach es X.env) (hpl : (backTo pos (starEach es X.env)).any (·.1) = false) : SE c.M W X (.Call (.Name x p) (e :: es) [] pos) (eBi f ml) :=
  se_callB o.g hc (chkG_gl o h).1 hm hv ha (chkG_gl o h).2.2 (chkG_gl o h).2.1 he hpl
theorem w_ty (o : OkX c N sc fnf X) {T : String} {f : List D → Gh → R D} (hc : CallOk c.M W X (.type T) f) (hv : bootBuiltins x = some (.type T)) (h : chkG sc x = true) (hm : c.M.mg x = none) (ha : SA c.M W X (e :: es) ml)
    (he : starEach (e :: es) X.env = (false, eval e X.env) :: starEach es X.env) (hpl : (backTo pos (starEach es X.env)).any (·.1) = false) : SE c.M W X (.Call (.Name x p) (e :: es) [] pos) (eBi f ml) :=
  se_callTy o.g hc (chkG_gl o h).1 hm hv ha (chkG_gl o h).2.2 (chkG_gl o h).2.1 he hpl
theorem w_tyF (o : OkX c N sc fnf X) {T : String} {f : List D → Gh → R (List D)} (hc : CallF c.M W X (.type T) f) (hv : bootBuiltins x = some (.type T)) (h : chkG sc x = true) (hm : c.M.mg x = none) (ha : SA c.M W X (e :: es) ml)
    (he : starEach (e :: es) X.env = (false, eval e X.env) :: starEach es X.env) (hpl : (backTo pos (starEach es X.env)).any (·.1) = false) : SF c.M W X (.Call (.Name x p) (e :: es) [] pos) (lBi f ml) :=
  sf_callTy o.g hc (chkG_gl o h).1 hm hv ha (chkG_gl o h).2.2 (chkG_gl o h).2.1 he hpl
theorem w_biF (o : OkX c N sc fnf X) {bid : String} {f : List D → Gh → R (List D)} (hc : CallF c.M W X (.builtin bid) f) (hv : bootBuiltins x = some (.builtin bid)) (h : chkG sc x = true) (hm : c.M.mg x = none) (ha : SA c.M W X (e :: es) ml)
    (he : starEach (e :: es) X.env = (false, eval e X.env) :: starEach es X.env) (hpl : (backTo pos (starEach es X.env)).any (·.1) = false) : SF c.M W X (.Call (.Name x p) (e :: es) [] pos) (lBi f ml) :=
  sf_callB o.g hc (chkG_gl o h).1 hm hv ha (chkG_gl o h).2.2 (chkG_gl o h).2.1 he hpl

/-! ### defs of the program -/
/-- what a call of the def x in one of its shapes may lean on -/
structure CF (c : Cn) (x : Str) (m : FM) (n : Nat) (ks : List Str) (pm : List Nat) (dd : List D) : Prop where
  ex : ∃ f fd ps, FnG c.P c.wo c.M c.base c.k f fd ps m ∧ Bnd c.M fd ps n ks pm dd ∧ c.M.mg x = some (.ref f) ∧ PySem.W.keepIn c.M.K (.ref f) = true
theorem w_call (o : OkX c N sc fnf X) {m : FM} {n : Nat} {ks : List Str} {pm : List Nat} {dd : List D} {kws : List Keyword} (F : CF c x m n ks pm dd) (h : chkG sc x = true) (ha : SA c.M W X es ml) (hk : SK c.M W X kws mk)
    (hst : starEach es X.env = es.map fun e => (false, eval e X.env)) (hks : kws.map (·.arg) = ks.map some) : SE c.M W X (.Call (.Name x p) es kws pos) (eCall m n ks.length pm dd ml mk) := by
  obtain ⟨f, fd, ps, F, hb, hm, hkp⟩ := F.ex
  exact se_call (by rw [o.p, o.w, o.b]; exact F) (Nat.le_refl _) o.g hb (chkG_gl o h).1 hm hkp ha hk (chkG_gl o h).2.1 hst hks

/-! ### comprehensions -/
theorem OkX.blk (o : OkX c N sc fnf X) {scope : Scope} (s : Shared) (H : Hp) (C : Addr) (cl : List (Str × Addr)) (fp : List Addr) : OkX c N (relS scope sc) (fun x => scope.names.lookup x == some .cell) (X.blk s H scope (compEnvC scope cl C X.env) fp) :=
  ⟨⟨o.g.K, o.g.mg, o.g.calm, o.g.nd, o.g.room, o.g.gd⟩, o.n, by show relS scope X.env.scope = _; rw [o.s], rfl, rfl, o.p, o.w, o.b⟩
variable {elt tg iter : Expr} {ifs : List Expr} {scope : Scope} {mi : MI} {mg : MG} {mt : MT} {me : ME} {ts : List Nat}
theorem w_comp (o : OkX c N sc fnf X) (own : List (Str × Nat)) (hb : blkC N sc scope own = true) (hi : SI c.M W X tg iter mi)
    (hg : ∀ X', OkX c N (relS scope sc) (fun x => scope.names.lookup x == some .cell) X' → SG c.M X' tg ts mg) (ht : ∀ X', OkX c N (relS scope sc) (fun x => scope.names.lookup x == some .cell) X' → STs c.M W0 X' ifs mt)
    (he : ∀ X', OkX c N (relS scope sc) (fun x => scope.names.lookup x == some .cell) X' → SE c.M W0 X' elt me) (hts : (ts.all fun i => (own.map (·.2)).contains i) = true) (hs : ∀ x, foldedSetIterable iter X.env x = pure x) :
    SF c.M W X (.ListComp elt [⟨tg, iter, ifs, 0⟩] scope pos) (lComp mi mg mt me (own.map (·.2))) := by
  refine sf_comp o.g hi (by rw [o.n, o.s]; exact blkOk_by hb) (fun s H C cl fp => hg _ (o.blk s H C cl fp)) (fun s H C cl fp => ht _ (o.blk s H C cl fp)) (fun s H C cl fp => he _ (o.blk s H C cl fp)) (fun i hi => ?_) hs
  exact List.contains_iff_mem.mp (List.all_eq_true.mp hts i hi)
theorem sw_eq (o : OkX c N sc fnf X) (hk : isFnK sc.kind = true) {elt : Expr} {gs : List Comprehension} {py : Pos} {l : Nat} : swapsWith (.ListComp elt gs scope pos) (some (.Name y py)) l X.env = pure (chkSw sc y py pos scope) := by
  have hk' : X.env.scope.kind = .function := by rw [o.s]; exact isFnK_eq hk
  have hb : X.env.blockKind = .function := by unfold Env.blockKind; rw [hk']; rfl
  have e1 : (X.env.kindOf y == some NameKind.local) = decide (sc.names.lookup y = some .local) := by
    unfold Env.kindOf; rw [o.s]
    cases sc.names.lookup y with
    | none => rfl
    | some k => cases k <;> rfl
  unfold swapsWith chkSw
  simp only [hb, e1, Expr.pos]
  rfl
theorem w_setComp (o : OkX c N sc fnf X) (i : Nat) {py spos : Pos} (h : chkT N sc fnf i y = true) (hk : isFnK sc.kind = true) (hsw : chkSw sc y py pos scope = true) (own : List (Str × Nat)) (hb : blkC N sc scope own = true) (hi : SI c.M W X tg iter mi)
    (hg : ∀ X', OkX c N (relS scope sc) (fun x => scope.names.lookup x == some .cell) X' → SG c.M X' tg ts mg) (ht : ∀ X', OkX c N (relS scope sc) (fun x => scope.names.lookup x == some .cell) X' → STs c.M W0 X' ifs mt)
    (he : ∀ X', OkX c N (relS scope sc) (fun x => scope.names.lookup x == some .cell) X' → SE c.M W0 X' elt me) (hts : (ts.all fun i => (own.map (·.2)).contains i) = true) (hs : ∀ x, foldedSetIterable iter X.env x = pure x) :
    SS c.M W X (.Assign [.Name y py] (.ListComp elt [⟨tg, iter, ifs, 0⟩] scope pos) spos) (sSet i (eNew (lComp mi mg mt me (own.map (·.2))))) := by
  have hl : X.env.scope.names.lookup y = some .local := by
    unfold chkSw at hsw
    simp only [Bool.and_eq_true, decide_eq_true_eq] at hsw
    rw [o.s]; exact hsw.1.1
  refine ss_setComp o.g (chkT_of o h).1 hl (by rw [sw_eq o hk, hsw]) hi (by rw [o.n, o.s]; exact blkOk_by hb) (fun s H C cl fp => hg _ (o.blk s H C cl fp)) (fun s H C cl fp => ht _ (o.blk s H C cl fp)) (fun s H C cl fp => he _ (o.blk s H C cl fp)) (fun i hi => ?_) hs
  exact List.contains_iff_mem.mp (List.all_eq_true.mp hts i hi)
theorem w_setCompOwn (o : OkX c N sc fnf X) (i : Nat) {py spos : Pos} (h : chkT N sc fnf i y = true) (hk : isFnK sc.kind = true) (hsw : chkSw sc y py pos scope = true) (own : List (Str × Nat)) (hb : blkC N sc scope own = true) (hi : SI c.M W X tg iter mi)
    (hg : ∀ X', OkX c N (relS scope sc) (fun x => scope.names.lookup x == some .cell) X' → SG c.M X' tg ts mg) (ht : ∀ X', OkX c N (relS scope sc) (fun x => scope.names.lookup x == some .cell) X' → STs c.M W0 X' ifs mt)
    (he : ∀ X', OkX c N (relS scope sc) (fun x => scope.names.lookup x == some .cell) X' → SE c.M W0 X' elt me) (hts : (ts.all fun i => (own.map (·.2)).contains i) = true) (hs : ∀ x, foldedSetIterable iter X.env x = pure x) :
    SS c.M W X (.Assign [.Name y py] (.ListComp elt [⟨tg, iter, ifs, 0⟩] scope pos) spos) (sSetOwn i (lComp mi mg mt me (own.map (·.2)))) := by
  have hl : X.env.scope.names.lookup y = some .local := by
    unfold chkSw at hsw
    simp only [Bool.and_eq_true, decide_eq_true_eq] at hsw
    rw [o.s]; exact hsw.1.1
  refine ss_setCompOwn o.g (chkT_of o h).1 hl (by rw [sw_eq o hk, hsw]) hi (by rw [o.n, o.s]; exact blkOk_by hb) (fun s H C cl fp => hg _ (o.blk s H C cl fp)) (fun s H C cl fp => ht _ (o.blk s H C cl fp)) (fun s H C cl fp => he _ (o.blk s H C cl fp)) (fun i hi => ?_) hs
  exact List.contains_iff_mem.mp (List.all_eq_true.mp hts i hi)
/-- a comprehension given to a name by the long way -/
theorem w_setC (o : OkX c N sc fnf X) (i : Nat) {py spos : Pos} {gs : List Comprehension} (h : chkT N sc fnf i y = true) (hk : isFnK sc.kind = true) (hsw : chkSw sc y py pos scope = false) (ha : SE c.M W X (.ListComp elt gs scope pos) ma) : SS c.M W X (.Assign [.Name y py] (.ListComp elt gs scope pos) spos) (sSet i ma) :=
  w_set o i h ha (by rw [sw_eq o hk, hsw])
end
end GL
/-! GL part 13: written tables, defs held by a name, slices, own lists, stores to places. -/
namespace GL
open PySem L2 PyProof.Rows
section
variable {M : Im} {W : XW} {X : Cx} {k j n i : Nat} {a b o e : Expr} {es : List Expr} {ma mb mo : ME} {ml : ML} {pos p apos cpos : Pos} {x : Str}
/-! ### a written dict by a text -/
def eTab (tb : Str → Option D) (a : ME) : ME := fun env g => (a env g).bind fun x g1 => match x with
  | .str z => match tb z with
    | some d => .ok d g1
    | none => .bad
  | _ => .bad
theorem se_tab (g : GX M k X) {tb : Str → Option D} {T : Addr} (hT : ∀ z d, tb z = some d → ∃ v, KDct M.K X.w T z v ∧ ∀ w, DV M w d v) (hg : Gl X x) (hm : M.mg x = some (.ref T)) (hd : (x == ("__debug__" : Str)) = false) (ha : SE M W X a ma) (hs : PlainIx a) :
    SE M W X (.Subscript (.Name x p) a pos) (eTab tb ma) := by
  obtain ⟨t, a1, a2⟩ := ha
  have hn : PE X (.Name x p) (tC (.ref T)) := pe_glob hg (by rw [g.mg]; exact hm) rfl hd
  refine ⟨_, pe_ix ix_kdict hn a1 hs, fun w fr env G σ H Q r h => ?_⟩
  refine a2 w fr env G σ H _ r ((Post.bind h).imp fun y w1 G1 H1 l1 r1 h1 vy dy => ?_)
  cases dy <;> try exact h1.elim
  rename_i z
  simp only at h1
  cases q : tb z with
  | none => rw [q] at h1; exact h1.elim
  | some d =>
    rw [q] at h1
    obtain ⟨v, kd, dv⟩ := hT z d q
    rw [← g.K] at kd
    exact ⟨T, z, v, rfl, rfl, kd, Post.here h1 r1 v (dv w1)⟩
/-! ### a def held by a local name -/
/-- F id: what the def of that number means; ok tells which may be called so -/
def eCallV (F : Nat → FM) (okF : Nat → Bool) (n : Nat) (i : Nat) (l : ML) : ME := fun env g => match env[i]? with
  | some (.val (.fn q)) => if okF q then (l env g).bind fun ds g1 => if ds.length = n then noX (F q ds g1) else .bad else .bad
  | _ => .bad
theorem permL_range {α : Type} {n : Nat} {xs : List α} (h : xs.length = n) : permL (List.range n) (xs ++ [] ++ []) = xs := by
  rw [List.append_nil, List.append_nil]
  subst h
  unfold permL
  have : ∀ (ys zs : List α), ((List.range ys.length).map (· + zs.length)).filterMap (fun i => (zs ++ ys)[i]?) = ys := by
    intro ys
    induction ys with
    | nil => intro zs; rfl
    | cons y ys ih =>
      intro zs
      rw [List.length_cons, List.range_succ_eq_map, List.map_cons, List.filterMap_cons]
      simp only [Nat.zero_add, List.getElem?_append_right (Nat.le_refl _), Nat.sub_self, List.getElem?_cons_zero]
      have h2 := ih (zs ++ [y])
      rw [List.map_map]
      rw [List.append_assoc, List.singleton_append] at h2
      simp only [List.length_append, List.length_singleton] at h2
      have e : (List.range ys.length).map ((· + zs.length) ∘ Nat.succ) = (List.range ys.length).map (· + (zs.length + 1)) := by
        apply List.map_congr_left
        intro a _
        show a + 1 + zs.length = a + (zs.length + 1)
        omega
      rw [e, h2]
  simpa using this xs []
theorem se_callV (g : GX M k X) {F : Nat → FM} {okF : Nat → Bool} (HF : ∀ q f, okF q = true → M.fa q = some f → ∃ fd ps, FnG X.prog X.w M X.base k f fd ps (F q) ∧ Bnd M fd ps n [] (List.range n) [] ∧ PySem.W.keepIn M.K (.ref f) = true)
    (hN : X.N[i]? = some x) (hv : Vis X.env.scope x) (hdb : (x == ("__debug__" : Str)) = false) (hcd : (x == ("__classdict__" : Str)) = false) (ha : SA M W X (e :: es) ml)
    (he : starEach (e :: es) X.env = (false, eval e X.env) :: starEach es X.env) (hpl : (backTo pos (starEach es X.env)).any (·.1) = false) : SE M W X (.Call (.Name x p) (e :: es) [] pos) (eCallV F okF n i ml) := by
  obtain ⟨t, a1, a2⟩ := ha
  refine ⟨fun σ H Q => ∃ f q, σ[i]? = some (some (.ref f)) ∧ okF q = true ∧ M.fa q = some f ∧ t σ H fun vs H1 => ∃ w fr env G ds, RS M w fr env G σ H1 ∧ DVs M w ds vs ∧ ds.length = n ∧ Post M W fr env σ w (PE' M Q) (noX (F q ds G)), ⟨fun pins s σ H Q I h => ?_⟩, fun w fr env G σ H Q rs h => ?_⟩
  · obtain ⟨f, q, hs, hok, hf, ht⟩ := h
    obtain ⟨fd, ps, FG, hb, hk⟩ := HF q f hok hf
    refine wpAny_Call_Name_kw (thn ((pe_var (pos := p) hN hv hdb hcd).run pins s σ H (fun v H1 => v = .ref f ∧ H1 = H) I ⟨.ref f, hs, rfl, rfl⟩) fun u s1 ⟨v, H1, I1, r1, q1⟩ => ?_)
    obtain ⟨rfl, rfl⟩ := q1
    cases r1
    have kk : PySem.W.keepIn X.K (.ref f) = true := by rw [g.K]; exact hk
    refine PySem.W.callWith_K (h₀ := X.base) I.ok.mod.kin kk (thn (a1.run pos pins s1 σ _ _ I1 ht) fun us s2 ⟨vs, H2, I2, r, w, fr, env, G, ds, rs, dvs, hl, hp⟩ => ⟨I2.kIn, ?_⟩) he hpl
    exact run_G (ks := []) (zs := []) (ws := []) (es' := []) FG g.room g hb I2 r .nil hl rfl rs dvs .nil (by rw [permL_range hl]; exact hp)
  · unfold eCallV at h
    cases q : env[i]? with
    | none => rw [q] at h; exact h.elim
    | some s =>
      rw [q] at h
      cases s with
      | un => exact h.elim
      | own xs => exact h.elim
      | val d =>
        cases d <;> try exact h.elim
        rename_i z
        simp only at h
        by_cases hok : okF z = true
        · rw [if_pos hok] at h
          obtain ⟨v, h1, h2⟩ := rs.get q
          cases h2 with
          | fn h3 =>
            refine ⟨_, z, h1, hok, h3, ?_⟩
            refine a2 w fr env G σ H _ rs ((Post.bind h).imp fun ds w1 G1 H1 l1 r1 h4 vs dvs => ?_)
            by_cases hl : ds.length = n
            · rw [if_pos hl] at h4; exact ⟨w1, fr, env, G1, ds, r1, dvs, hl, h4⟩
            · rw [if_neg hl] at h4; exact h4.elim
        · rw [if_neg hok] at h; exact h.elim

/-! ### slices, list + list -/
def SO (M : Im) (W : XW) (X : Cx) (e : Option Expr) (m : MO) : Prop := ∃ t, PO X e t ∧ ∀ w fr env G σ H Q, RS M w fr env G σ H → Post M W fr env σ w (fun o _ _ H' => Q o H') (m env G) → t σ H Q
theorem so_none : SO M W X none oNone := ⟨_, po_none, fun w fr env G σ H Q r h => Post.here h r⟩
theorem so_some (ha : SE M W X a ma) : SO M W X (some a) (oSome ma) := by
  obtain ⟨t, a1, a2⟩ := ha
  refine ⟨_, po_some a1, fun w fr env G σ H Q r h => ?_⟩
  refine a2 w fr env G σ H _ r ((Post.bind h).imp fun x w1 G1 H1 l1 r1 h1 vx dx => ?_)
  cases dx <;> try exact h1.elim
  exact ⟨_, rfl, Post.here (P := fun o _ _ H' => Q o H') h1 r1⟩
theorem cut_DVs {w : Wd} {xs : List D} {vs : List V} (h : DVs M w xs vs) (lo hi : Option Int) : DVs M w (cutD xs lo hi) (cutV vs lo hi) := by
  unfold cutD cutV
  rw [h.length]
  exact (h.drop _).take _
theorem cut_whole {xs : List D} {lo hi : Option Int} (h : HT.sIx xs.length 0 lo = 0 ∧ HT.sIx xs.length xs.length hi = xs.length) : cutD xs lo hi = xs := by
  unfold cutD
  rw [h.1, h.2]
  simp
variable {lo hi : Option Expr} {ml' mh : MO} {p2 : Pos}
theorem se_cut (g : GX M k X) (ha : SE M W X a ma) (hl : SO M W X lo ml') (hh : SO M W X hi mh) : SE M W X (.Subscript a (.Slice lo hi none p2) pos) (eCut ma ml' mh) := by
  obtain ⟨t, a1, a2⟩ := ha
  obtain ⟨u, b1, b2⟩ := hl
  obtain ⟨v, c1, c2⟩ := hh
  refine ⟨_, pe_slice (sl_list.or sl_tupA) a1 b1 c1, fun w fr env G σ H Q r h => ?_⟩
  refine a2 w fr env G σ H _ r ((Post.bind h).imp fun x w1 G1 H1 l1 r1 h1 vx dx => ?_)
  refine b2 w1 fr env G1 σ H1 _ r1 ((Post.bind h1).imp fun oi w2 G2 H2 l2 r2 h2 => ?_)
  refine c2 w2 fr env G2 σ H2 _ r2 ((Post.bind h2).imp fun oj w3 G3 H3 l3 r3 h3 => ?_)
  have dh := DH.of r3 ((dx.up l2).up l3)
  generalize deref G3 x = x' at *
  cases x' <;> try exact h3.elim
  · obtain ⟨q, vs, rfl, hs, hd⟩ := dh.tup
    have hs' := SqT.mono r3.cold hs
    rw [← g.K] at hs'
    refine .inr ⟨q, vs, rfl, hs', fun hw => ?_, fun hw q' hq => ?_⟩
    · rw [← hd.length] at hw
      have h3 : Post M W fr env σ w3 (PE' M Q) (.ok (.tup (cutD _ oi oj)) G3) := h3
      rw [cut_whole hw] at h3
      exact Post.here h3 r3 _ (.tup hs hd)
    · exact post_tup r3 (cut_DVs hd oi oj) h3 hq
  · obtain ⟨q, vs, rfl, hs, hd⟩ := dh.list
    exact .inl ⟨q, vs, rfl, .inl (.inl hs), fun q' hq => post_lst r3 (cut_DVs hd oi oj) h3 hq⟩
def lCut (a : ME) (lo hi : MO) : ML := fun env g => (a env g).bind fun x g1 => (lo env g1).bind fun l g2 => (hi env g2).bind fun h g3 => match deref g3 x with
  | .lst xs => if xs.length ≤ LIM then .ok (cutD xs l h) g3 else .bad
  | _ => .bad
theorem sf_cut (g : GX M k X) (ha : SE M W X a ma) (hl : SO M W X lo ml') (hh : SO M W X hi mh) : SF M W X (.Subscript a (.Slice lo hi none p2) pos) (lCut ma ml' mh) := by
  obtain ⟨t, a1, a2⟩ := ha
  obtain ⟨u, b1, b2⟩ := hl
  obtain ⟨v, c1, c2⟩ := hh
  refine ⟨_, pe_slice sl_list a1 b1 c1, fun w fr env G σ H Q r h => ?_⟩
  refine a2 w fr env G σ H _ r ((Post.bind h).imp fun x w1 G1 H1 l1 r1 h1 vx dx => ?_)
  refine b2 w1 fr env G1 σ H1 _ r1 ((Post.bind h1).imp fun oi w2 G2 H2 l2 r2 h2 => ?_)
  refine c2 w2 fr env G2 σ H2 _ r2 ((Post.bind h2).imp fun oj w3 G3 H3 l3 r3 h3 => ?_)
  have dh := DH.of r3 ((dx.up l2).up l3)
  generalize deref G3 x = x' at *
  cases x' <;> try exact h3.elim
  rename_i xs
  obtain ⟨q, vs, rfl, hs, hd⟩ := dh.list
  by_cases hz : xs.length ≤ LIM
  · simp only [hz, if_true] at h3
    refine ⟨q, vs, rfl, .inl (.inl hs), fun q' hq => Post.here h3 r3 _ q' (cut_DVs hd oi oj) ?_ hq⟩
    have := cutV_length vs oi oj
    rw [← hd.length] at this
    exact Nat.le_trans this (lim_le hz)
  · simp only [hz, if_false] at h3; exact h3.elim
def lCat (a b : ME) : ML := fun env g => (a env g).bind fun x g1 => (b env g1).bind fun y g2 => match deref g2 x, deref g2 y with
  | .lst xs, .lst ys => if xs.length + ys.length ≤ LIM then .ok (xs ++ ys) g2 else .bad
  | _, _ => .bad
theorem sf_cat (g : GX M k X) (ha : SE M W X a ma) (hb : SE M W X b mb) : SF M W X (.BinOp a .Add b pos) (lCat ma mb) := by
  obtain ⟨ta, a1, a2⟩ := ha
  obtain ⟨tb, b1, b2⟩ := hb
  refine ⟨_, pe_op op_cat a1 b1, fun w fr env G σ H Q rs h => ?_⟩
  refine a2 w fr env G σ H _ rs ((Post.bind h).imp fun x w1 G1 H1 l1 r1 h1 vx dx => ?_)
  refine b2 w1 fr env G1 σ H1 _ r1 ((Post.bind h1).imp fun y w2 G2 H2 l2 r2 h2 vy dy => ?_)
  have dh := DH.of r2 (dx.up l2)
  have dh' := DH.of r2 dy
  generalize deref G2 x = x' at *
  generalize deref G2 y = y' at *
  cases x' <;> cases y' <;> try exact h2.elim
  rename_i xs ys
  obtain ⟨q, vs, rfl, hs, hd⟩ := dh.list
  obtain ⟨q', us, rfl, hs', hd'⟩ := dh'.list
  by_cases hz : xs.length + ys.length ≤ LIM
  · simp only [hz, if_true] at h2
    have hz' : vs.length + us.length ≤ sizeLine := by rw [← hd.length, ← hd'.length]; exact lim_le hz
    exact ⟨q, q', vs, us, rfl, rfl, hs, hs', hz', fun p' hp => Post.here h2 r2 _ p' (hd.append hd') (by rw [List.length_append]; exact hz') hp⟩
  · simp only [hz, if_false] at h2; exact h2.elim

/-! ### an own list is grown -/
def sOwnApp (i : Nat) (a : ME) : MS := fun env g => match env[i]? with
  | some (.own xs) => (a env g).bindS fun d g1 => if xs.length < LIM then .nx (env.set i (.own (xs ++ [d]))) g1 else .bad
  | _ => .bad
theorem set_self {α : Type} : ∀ {l : List α} {i : Nat} {x : α}, l[i]? = some x → l.set i x = l
  | _ :: _, 0, _, h => by simp at h; subst h; rfl
  | y :: l, i + 1, x, h => by simp only [List.set_cons_succ]; rw [set_self (by simpa using h)]
theorem RS.getOwn {w : Wd} {fr : List (Addr × HO)} {env : Env'} {G : Gh} {σ : L2.St} {H : Hp} {i : Nat} {xs : List D} (r : RS M w fr env G σ H) (h : env[i]? = some (.own xs)) :
    ∃ q vs, σ[i]? = some (some (.ref q)) ∧ H q = some (.lst vs) ∧ DVs M w xs vs ∧ ∀ ys us, DVs M w ys us → RS M w fr (env.set i (.own ys)) G σ (upd H q (.lst us)) := by
  obtain ⟨os, g, sl⟩ := r
  obtain ⟨q, vs, f1, f2, rfl, h1, h2, h3, h4⟩ := sl.getOwn h
  refine ⟨q, vs, h1, g.frm (q, .lst vs) (by simp), h2, fun ys us d => ⟨_, ?_, h3 ys us d⟩⟩
  rw [List.append_assoc, List.cons_append] at g ⊢
  exact g.setFr
theorem ss_ownApp (g : GX M k X) (hN : X.N[i]? = some x) (hv : Vis X.env.scope x) (hdb : (x == ("__debug__" : Str)) = false) (hcd : (x == ("__classdict__" : Str)) = false) (ha : SE M W X a ma)
    (hst : starEach [a] X.env = [(false, eval a X.env)]) (hline : (apos.endLine == cpos.line) = true) : SS M W X (.Expr (.Call (.Attribute (.Name x p) "append" apos) [a] [] cpos) pos) (sOwnApp i ma) := by
  obtain ⟨t, a1, a2⟩ := ha
  have hs' : starEach (a :: []) X.env = (false, eval a X.env) :: starEach [] X.env := hst
  refine ⟨_, ps_expr (pe_bm PySem.F.plainAttrs_list PySem.F.slot_list_append PySem.F.type_list_append mt_append (pe_var (pos := p) hN hv hdb hcd) (pa_cons a1 pa_nil hs') rfl (by rw [hst]; rfl) hline hs' rfl) rfl, fun w fr env G σ H D r h => ?_⟩
  unfold sOwnApp at h
  cases q : env[i]? with
  | none => rw [q] at h; exact h.elim
  | some s =>
    rw [q] at h
    cases s with
    | un => exact h.elim
    | val d => exact h.elim
    | own xs =>
      obtain ⟨l, vs, h1, h2, h3, _⟩ := r.getOwn q
      refine ⟨_, h1, .inl ⟨rfl, vs, .inl (.inl h2)⟩, ?_⟩
      refine a2 w fr env G σ H _ r ((PostS.bind h).imp fun d w1 G1 H1 l1 r1 h4 vd dd => ?_)
      by_cases hz : xs.length < LIM
      · rw [if_pos hz] at h4
        obtain ⟨l', vs', e1, e2, e3, e4⟩ := r1.getOwn q
        rw [h1] at e1; cases e1
        refine ⟨l, vs', vd, rfl, rfl, e2, by rw [← e3.length]; exact lim_lt hz, ?_⟩
        exact h4 w1 σ _ (Wd.Le.refl w1) (e4 _ _ (e3.append (.cons dd .nil)))
      · rw [if_neg hz] at h4; exact h4.elim
def InsOk (n : Nat) (j : Int) : Prop := n < LIM ∧ 0 ≤ j ∧ j < 2 ^ 63
noncomputable def insOk (n : Nat) (j : Int) : Bool := tru (InsOk n j)
theorem ins_ok {n : Nat} {j : Int} (h : n < LIM) (h0 : 0 ≤ j) (h1 : j ≤ 1000000) : insOk n j = true := tru_iff.mpr ⟨h, h0, Int.lt_of_le_of_lt h1 (by decide)⟩
noncomputable def sOwnIns (i : Nat) (a b : ME) : MS := fun env g => match env[i]? with
  | some (.own xs) => (a env g).bindS fun y g1 => (b env g1).bindS fun d g2 => match y with
    | .int j => if insOk xs.length j then .nx (env.set i (.own (xs.take j.toNat ++ [d] ++ xs.drop j.toNat))) g2 else .bad
    | _ => .bad
  | _ => .bad
theorem ss_ownIns (g : GX M k X) (hN : X.N[i]? = some x) (hv : Vis X.env.scope x) (hdb : (x == ("__debug__" : Str)) = false) (hcd : (x == ("__classdict__" : Str)) = false) (ha : SE M W X a ma) (hb : SE M W X b mb)
    (hst : starEach [a, b] X.env = [(false, eval a X.env), (false, eval b X.env)]) (hst2 : starEach [b] X.env = [(false, eval b X.env)]) (hline : (apos.endLine == cpos.line) = true) : SS M W X (.Expr (.Call (.Attribute (.Name x p) "insert" apos) [a, b] [] cpos) pos) (sOwnIns i ma mb) := by
  obtain ⟨t, a1, a2⟩ := ha
  obtain ⟨u, b1, b2⟩ := hb
  have hs' : starEach (a :: [b]) X.env = (false, eval a X.env) :: starEach [b] X.env := by rw [hst, hst2]
  have hs2 : starEach (b :: []) X.env = (false, eval b X.env) :: starEach [] X.env := hst2
  refine ⟨_, ps_expr (pe_bm PySem.F.plainAttrs_list PySem.F.slot_list_insert PySem.F.type_list_insert mt_insert (pe_var (pos := p) hN hv hdb hcd) (pa_cons a1 (pa_cons b1 pa_nil hs2) hs') rfl (by rw [hst]; rfl) hline hs' (by rw [hst2]; rfl)) rfl, fun w fr env G σ H D r h => ?_⟩
  unfold sOwnIns at h
  cases q : env[i]? with
  | none => rw [q] at h; exact h.elim
  | some s =>
    rw [q] at h
    cases s with
    | un => exact h.elim
    | val d => exact h.elim
    | own xs =>
      obtain ⟨l, vs, h1, h2, h3, _⟩ := r.getOwn q
      refine ⟨_, h1, .inl ⟨rfl, vs, .inl (.inl h2)⟩, ?_⟩
      refine a2 w fr env G σ H _ r ((PostS.bind h).imp fun y w1 G1 H1 l1 r1 h4 vy dy => ?_)
      refine b2 w1 fr env G1 σ H1 _ r1 ((PostS.bind h4).imp fun d w2 G2 H2 l2 r2 h5 vd dd => ?_)
      cases dy <;> try exact h5.elim
      rename_i jj
      simp only at h5
      by_cases hz0 : insOk xs.length jj = true
      · rw [if_pos hz0] at h5
        have hz : xs.length < LIM ∧ 0 ≤ jj ∧ jj < 2 ^ 63 := tru_iff.mp hz0
        obtain ⟨l', vs', e1, e2, e3, e4⟩ := r2.getOwn q
        rw [h1] at e1; cases e1
        refine ⟨l, vs', jj, vd, rfl, rfl, e2, by rw [← e3.length]; exact lim_lt hz.1, hz.2.1, hz.2.2, ?_⟩
        exact h5 w2 σ _ (Wd.Le.refl w2) (e4 _ _ (((e3.take _).append (.cons dd .nil)).append (e3.drop _)))
      · rw [if_neg hz0] at h5; exact h5.elim

/-! ### o[i] = e of a mutable list -/
def sSetIx (a : ME) (o i : ME) : MS := fun env g => (a env g).bindS fun d g1 => (o env g1).bindS fun x g2 => (i env g2).bindS fun y g3 => match x, y with
  | .loc n, .int z => match g3[n]? with
    | some (.lst xs) => match ixN xs.length z with
      | some j => .nx env (g3.set n (.lst (xs.set j d)))
      | none => .bad
    | _ => .bad
  | _, _ => .bad
theorem ss_setIx (g : GX M k X) (ha : SE M W X a ma) (ho : SE M W X o mo) (hi : SE M W X b mb)
    (hag : ∀ v, assign (.Subscript o b p) X.env v = (do
      let ov ← holding [v] (eval o X.env)
      let iv ← holding [v, ov] (eval b X.env)
      standAt p
      holding [v, ov, iv] (setItem ov iv v)
      release [v, ov, iv] []))
    (hs : swapsWithSole [.Subscript o b p] a pos.line X.env = pure false) (hw : swappedStores [.Subscript o b p] a X.env = pure none) (h1 : (assignEach [.Subscript o b p] X.env).map (·.2) = [assign (.Subscript o b p) X.env]) :
    SS M W X (.Assign [.Subscript o b p] a pos) (sSetIx ma mo mb) := by
  obtain ⟨t, a1, a2⟩ := ha
  obtain ⟨u, b1, b2⟩ := ho
  obtain ⟨v, c1, c2⟩ := hi
  refine ⟨_, ps_asg a1 (pg_sub b1 c1 set_list hag) hs hw h1, fun w fr env G σ H D r h => ?_⟩
  refine a2 w fr env G σ H _ r ((PostS.bind h).imp fun d w1 G1 H1 l1 r1 h1 vd dd => ?_)
  refine b2 w1 fr env G1 σ H1 _ r1 ((PostS.bind h1).imp fun x w2 G2 H2 l2 r2 h2 vx dx => ?_)
  refine c2 w2 fr env G2 σ H2 _ r2 ((PostS.bind h2).imp fun y w3 G3 H3 l3 r3 h3 vy dy => ?_)
  cases dx <;> cases dy <;> try exact h3.elim
  rename_i nn q hq z
  simp only at h3
  cases e : G3[nn]? with
  | none => rw [e] at h3; exact h3.elim
  | some ob =>
    rw [e] at h3
    cases ob with
    | ins c fs => exact h3.elim
    | lst xs =>
      obtain ⟨q', ho, e1, e2, e3⟩ := r3.obj e
      rw [l3.r _ _ hq] at e1; cases e1
      cases e3 with
      | lst e3 =>
        simp only at h3
        rename_i vs
        cases e4 : ixN xs.length z with
        | none => rw [e4] at h3; exact h3.elim
        | some jj =>
          rw [e4] at h3
          refine ⟨q, vs, z, jj, rfl, rfl, e2, by rw [← e3.length]; exact e4, ?_⟩
          exact h3 w3 σ _ (Wd.Le.refl w3) (r3.setObj (l3.r _ _ hq) (.lst (e3.set ((dd.up l2).up l3) jj)))
end
section
variable {c : Cn} {W : XW} {N : List Str} {sc : Scope} {fnf : Str → Bool} {X : Cx} {a b e o' : Expr} {es : List Expr} {ma mb mo : ME} {ml : ML} {pos p apos cpos p2 : Pos} {x : Str} {i n : Nat} {lo hi : Option Expr} {ml' mh : MO}
theorem chkV_of (o : OkX c N sc fnf X) (h : chkV N sc i x = true) : X.N[i]? = some x ∧ Vis X.env.scope x ∧ (x == ("__debug__" : Str)) = false ∧ (x == ("__classdict__" : Str)) = false := by
  unfold chkV at h
  simp only [Bool.and_eq_true, decide_eq_true_eq, Bool.not_eq_true'] at h
  refine ⟨by rw [o.n]; exact h.1.1.1, ?_, h.1.2, h.2⟩
  unfold Vis
  rw [o.s]
  have := h.1.1.2
  cases q : sc.names.lookup x with
  | none => rw [q] at this; cases this
  | some k => rw [q] at this; cases k <;> simp [isVis] at this ⊢
/-- a written table of the module -/
structure TF (c : Cn) (x : Str) (tb : Str → Option D) : Prop where
  ex : ∃ T, c.M.mg x = some (.ref T) ∧ ∀ z d, tb z = some d → ∃ v, KDct c.M.K c.wo T z v ∧ ∀ w, DV c.M w d v
theorem w_tab (o : OkX c N sc fnf X) {tb : Str → Option D} (F : TF c x tb) (h : chkG sc x = true) (ha : SE c.M W X a ma) (hs : PlainIx a) : SE c.M W X (.Subscript (.Name x p) a pos) (eTab tb ma) := by
  obtain ⟨T, hm, hT⟩ := F.ex
  exact se_tab o.g (by rw [o.w]; exact hT) (chkG_gl o h).1 hm (chkG_gl o h).2.1 ha hs
/-- defs that a name may hold -/
def VF (c : Cn) (F : Nat → FM) (okF : Nat → Bool) (n : Nat) : Prop := ∀ q f, okF q = true → c.M.fa q = some f → ∃ fd ps, FnG c.P c.wo c.M c.base c.k f fd ps (F q) ∧ Bnd c.M fd ps n [] (List.range n) [] ∧ PySem.W.keepIn c.M.K (.ref f) = true
theorem w_callV (o : OkX c N sc fnf X) {F : Nat → FM} {okF : Nat → Bool} (HF : VF c F okF n) (i : Nat) (h : chkV N sc i x = true) (ha : SA c.M W X (e :: es) ml)
    (he : starEach (e :: es) X.env = (false, eval e X.env) :: starEach es X.env) (hpl : (backTo pos (starEach es X.env)).any (·.1) = false) : SE c.M W X (.Call (.Name x p) (e :: es) [] pos) (eCallV F okF n i ml) :=
  se_callV o.g (by rw [o.p, o.w, o.b]; exact HF) (chkV_of o h).1 (chkV_of o h).2.1 (chkV_of o h).2.2.1 (chkV_of o h).2.2.2 ha he hpl
theorem w_cut (o : OkX c N sc fnf X) (ha : SE c.M W X a ma) (hl : SO c.M W X lo ml') (hh : SO c.M W X hi mh) : SE c.M W X (.Subscript a (.Slice lo hi none p2) pos) (eCut ma ml' mh) := se_cut o.g ha hl hh
theorem w_cutF (o : OkX c N sc fnf X) (ha : SE c.M W X a ma) (hl : SO c.M W X lo ml') (hh : SO c.M W X hi mh) : SF c.M W X (.Subscript a (.Slice lo hi none p2) pos) (lCut ma ml' mh) := sf_cut o.g ha hl hh
theorem w_catF (o : OkX c N sc fnf X) (ha : SE c.M W X a ma) (hb : SE c.M W X b mb) : SF c.M W X (.BinOp a .Add b pos) (lCat ma mb) := sf_cat o.g ha hb
theorem w_ownApp (o : OkX c N sc fnf X) (i : Nat) (h : chkV N sc i x = true) (ha : SE c.M W X a ma) (hst : starEach [a] X.env = [(false, eval a X.env)]) (hline : (apos.endLine == cpos.line) = true) : SS c.M W X (.Expr (.Call (.Attribute (.Name x p) "append" apos) [a] [] cpos) pos) (sOwnApp i ma) :=
  ss_ownApp o.g (chkV_of o h).1 (chkV_of o h).2.1 (chkV_of o h).2.2.1 (chkV_of o h).2.2.2 ha hst hline
theorem w_ownIns (o : OkX c N sc fnf X) (i : Nat) (h : chkV N sc i x = true) (ha : SE c.M W X a ma) (hb : SE c.M W X b mb) (hst : starEach [a, b] X.env = [(false, eval a X.env), (false, eval b X.env)]) (hst2 : starEach [b] X.env = [(false, eval b X.env)]) (hline : (apos.endLine == cpos.line) = true) :
    SS c.M W X (.Expr (.Call (.Attribute (.Name x p) "insert" apos) [a, b] [] cpos) pos) (sOwnIns i ma mb) :=
  ss_ownIns o.g (chkV_of o h).1 (chkV_of o h).2.1 (chkV_of o h).2.2.1 (chkV_of o h).2.2.2 ha hb hst hst2 hline
theorem w_setIx (o : OkX c N sc fnf X) (ha : SE c.M W X a ma) (ho : SE c.M W X o' mo) (hi : SE c.M W X b mb)
    (hag : ∀ v, assign (.Subscript o' b p) X.env v = (do
      let ov ← holding [v] (eval o' X.env)
      let iv ← holding [v, ov] (eval b X.env)
      standAt p
      holding [v, ov, iv] (setItem ov iv v)
      release [v, ov, iv] []))
    (hs : swapsWithSole [.Subscript o' b p] a pos.line X.env = pure false) (hw : swappedStores [.Subscript o' b p] a X.env = pure none) (h1 : (assignEach [.Subscript o' b p] X.env).map (·.2) = [assign (.Subscript o' b p) X.env]) :
    SS c.M W X (.Assign [.Subscript o' b p] a pos) (sSetIx ma mo mb) := ss_setIx o.g ha ho hi hag hs hw h1
end
end GL
/-! GL part 13b: a frame's own list is looked at by an expression that touches no mutable object. -/
namespace GL
open PySem L2
mutual
/-- no mutable object within -/
def frD : D → Bool
  | .loc _ => false
  | .tup xs => frDs xs
  | .lst xs => frDs xs
  | _ => true
def frDs : List D → Bool
  | [] => true
  | x :: xs => frD x && frDs xs
end
mutual
/-- neither a list nor a mutable object within -/
def plD : D → Bool
  | .loc _ | .lst _ | .arr _ => false
  | .tup xs => plDs xs
  | _ => true
def plDs : List D → Bool
  | [] => true
  | x :: xs => plD x && plDs xs
end
def hidS : Sl → Sl
  | .val d => if frD d then .val d else .un
  | _ => .un
/-- the slots as such an expression sees them -/
def hidE (env : Env') (i : Nat) (xs : List D) : Env' := (env.map hidS).set i (.val (.lst xs))
section
variable {M : Im} {w w' : Wd}
mutual
theorem DV.fr (hc : ∀ a o, w.C a = some o → w'.C a = some o) : ∀ (d : D) (v : V), DV M w d v → frD d = true → DV M w' d v
  | .non, _, h, _ => by cases h; exact .non
  | .bl b, _, h, _ => by cases h; exact .bl b
  | .int i, _, h, _ => by cases h; exact .int i
  | .str x, _, h, _ => by cases h; exact .str x
  | .tup xs, _, h, f => by
    cases h with
    | tup a b => exact .tup (SqT.mono hc a) (DVs.fr hc xs _ b (by simpa only [frD] using f))
  | .lst xs, _, h, f => by
    cases h with
    | lst a b => exact .lst (hc _ _ a) (DVs.fr hc xs _ b (by simpa only [frD] using f))
  | .loc n, _, h, f => by simp only [frD] at f; exact nomatch f
  | .fn s, _, h, _ => by
    cases h with
    | fn a => exact .fn a
  | .arr ns, _, h, _ => by
    cases h with
    | arr a => exact .arr (SqL.mono hc a)
theorem DVs.fr (hc : ∀ a o, w.C a = some o → w'.C a = some o) : ∀ (ds : List D) (vs : List V), DVs M w ds vs → frDs ds = true → DVs M w' ds vs
  | [], _, h, _ => by cases h; exact .nil
  | d :: ds, _, h, f => by
    have f : frD d = true ∧ frDs ds = true := by simpa only [frDs, Bool.and_eq_true] using f
    cases h with
    | cons a b => exact .cons (DV.fr hc d _ a f.1) (DVs.fr hc ds _ b f.2)
end
theorem SqT.off {K : PySem.W.Frag} {C C' : Hp} {a b : Addr} {vs us : List V} (ha : C a = some (.lst vs)) (h : ∀ b o, C b = some o → b ≠ a → C' b = some o) (r : SqT K C b us) : SqT K C' b us := by
  rcases r with (r | ⟨o, r⟩) | r
  · exact .inl (.inl (h _ _ r (fun e => by subst e; rw [ha] at r; cases r)))
  · exact .inl (.inr ⟨o, h _ _ r (fun e => by subst e; rw [ha] at r; cases r)⟩)
  · exact .inr r
mutual
theorem DV.off {a : Addr} {vs : List V} (ha : w.C a = some (.lst vs)) (hc : ∀ b o, w.C b = some o → b ≠ a → w'.C b = some o) : ∀ (d : D) (v : V), DV M w d v → plD d = true → DV M w' d v
  | .non, _, h, _ => by cases h; exact .non
  | .bl b, _, h, _ => by cases h; exact .bl b
  | .int i, _, h, _ => by cases h; exact .int i
  | .str x, _, h, _ => by cases h; exact .str x
  | .tup xs, _, h, f => by
    cases h with
    | tup a b => exact .tup (SqT.off ha hc a) (DVs.off ha hc xs _ b (by simpa only [plD] using f))
  | .lst xs, _, h, f => by simp only [plD] at f; exact nomatch f
  | .loc n, _, h, f => by simp only [plD] at f; exact nomatch f
  | .fn s, _, h, _ => by
    cases h with
    | fn a => exact .fn a
  | .arr ns, _, h, f => by simp only [plD] at f; exact nomatch f
theorem DVs.off {a : Addr} {vs : List V} (ha : w.C a = some (.lst vs)) (hc : ∀ b o, w.C b = some o → b ≠ a → w'.C b = some o) : ∀ (ds : List D) (us : List V), DVs M w ds us → plDs ds = true → DVs M w' ds us
  | [], _, h, _ => by cases h; exact .nil
  | d :: ds, _, h, f => by
    have f : plD d = true ∧ plDs ds = true := by simpa only [plDs, Bool.and_eq_true] using f
    cases h with
    | cons x y => exact .cons (DV.off ha hc d _ x f.1) (DVs.off ha hc ds _ y f.2)
end
theorem SlR.hid (hc : ∀ a o, w.C a = some o → w'.C a = some o) : ∀ {os : List (Addr × HO)} {env : Env'} {σ : L2.St}, SlR M w os env σ → SlR M w' [] (env.map hidS) σ
  | _, _, _, .nil => .nil
  | _, _, _, .un b => .un (SlR.hid hc b)
  | _, _, _, .val (d := d) a b => by
    by_cases h : frD d = true
    · have e : hidS (.val d) = .val d := if_pos h
      show SlR M w' [] (hidS (.val d) :: _) _
      rw [e]; exact .val (DV.fr hc _ _ a h) (SlR.hid hc b)
    · have e : hidS (.val d) = .un := if_neg h
      show SlR M w' [] (hidS (.val d) :: _) _
      rw [e]; exact .un (SlR.hid hc b)
  | _, _, _, .own a b => .un (SlR.hid hc b)
end
/-- the objects of the heap, as they stand -/
theorem RG.objs {M : Im} {w : Wd} {fr : List (Addr × HO)} {G : Gh} {H : Hp} (r : RG M w fr G H) : ∃ ps : List (Addr × HO), ps.map (·.1) = w.ρ ∧ ∀ p ∈ ps, H p.1 = some p.2 := by
  have : ∀ l : List Addr, (∀ a ∈ l, ∃ o, H a = some o) → ∃ ps : List (Addr × HO), ps.map (·.1) = l ∧ ∀ p ∈ ps, H p.1 = some p.2 := fun l => by
    induction l with
    | nil => exact fun _ => ⟨[], rfl, fun _ q => nomatch q⟩
    | cons a l ih =>
      intro h
      obtain ⟨o, ho⟩ := h a List.mem_cons_self
      obtain ⟨ps, h1, h2⟩ := ih fun b hb => h b (List.mem_cons_of_mem _ hb)
      refine ⟨(a, o) :: ps, by simp [h1], fun p hp => ?_⟩
      rcases List.mem_cons.mp hp with rfl | hp
      · exact ho
      · exact h2 p hp
  exact this w.ρ fun a ha => r.there (List.mem_append_left _ ha)
theorem SlR.at_ {M : Im} {w : Wd} {i : Nat} {d : D} {v : V} (r : DV M w d v) : ∀ {env : Env'} {σ : L2.St} {j : Nat}, SlR M w [] env σ → σ[j]? = some (some v) → SlR M w [] (env.set j (.val d)) σ
  | _, _, _, .nil, h => by simp at h
  | _, _, 0, .un b, h => by simp at h; subst h; exact .val r b
  | _, _, 0, .val a b, h => by simp at h; subst h; exact .val r b
  | _, _, j + 1, .un b, h => .un (SlR.at_ (i := i) r b (by simpa using h))
  | _, _, j + 1, .val a b, h => .val a (SlR.at_ (i := i) r b (by simpa using h))
theorem borrow_core {M : Im} {w : Wd} {fr : List (Addr × HO)} {env : Env'} {G : Gh} {σ : L2.St} {H : Hp} {i : Nat} {xs : List D} (r : RS M w fr env G σ H) (h : env[i]? = some (.own xs)) (hx : frDs xs = true) :
    ∃ w0 fr0, RS M w0 fr0 (hidE env i xs) [] σ H ∧ ∀ w1 H', w0.Le w1 → RS M w1 fr0 (hidE env i xs) [] σ H' → ∃ w2, w.Le w2 ∧ RS M w2 fr env G σ H' ∧ ∀ d v, plD d = true → DV M w1 d v → DV M w2 d v := by
  obtain ⟨os, g, sl⟩ := r
  obtain ⟨a, vs, f1, f2, rfl, q1, q2, q3, q4⟩ := sl.getOwn h
  have gp : RG M w ((a, .lst vs) :: (f1 ++ f2 ++ fr)) G H := g.perm (by
    rw [List.append_assoc, List.cons_append, List.append_assoc]
    exact List.perm_middle)
  obtain ⟨ps, hp1, hp2⟩ := g.objs
  have hca : w.C a = none := gp.hot a (by simp)
  have hcle : ∀ b o, w.C b = some o → upd w.C a (.lst vs) b = some o := fun b o e => by rw [upd_ne (ne_of_none e hca)]; exact e
  have nd : (a :: (w.ρ ++ (f1 ++ f2 ++ fr).map (·.1))).Nodup := (List.perm_middle.nodup_iff).mp gp.nd
  have nd' := List.nodup_cons.mp nd
  have em : (ps ++ (f1 ++ f2 ++ fr)).map (·.1) = w.ρ ++ (f1 ++ f2 ++ fr).map (·.1) := by rw [List.map_append, hp1]
  refine ⟨⟨upd w.C a (.lst vs), []⟩, ps ++ (f1 ++ f2 ++ fr), ⟨[], ?_, ?_⟩, fun w1 H' l r1 => ?_⟩
  · refine ⟨fun b o e => ?_, rfl, fun n o b e1 e2 => by simp at e1, fun p hp => ?_, ?_, fun b hb => ?_⟩
    · have e : upd w.C a (.lst vs) b = some o := e
      by_cases hb : b = a
      · subst hb; rw [upd_same] at e; cases e; exact gp.frm (b, .lst vs) List.mem_cons_self
      · rw [upd_ne hb] at e; exact g.cold b o e
    · have hp : p ∈ ps ++ (f1 ++ f2 ++ fr) := hp
      rcases List.mem_append.mp hp with hp | hp
      · exact hp2 p hp
      · exact gp.frm p (List.mem_cons_of_mem _ hp)
    · show (List.map (·.1) (ps ++ (f1 ++ f2 ++ fr))).Nodup
      rw [em]; exact nd'.2
    · have hb : b ∈ List.map (·.1) (ps ++ (f1 ++ f2 ++ fr)) := hb
      rw [em] at hb
      show upd w.C a (.lst vs) b = none
      have hb' : b ≠ a := fun e => nd'.1 (e ▸ hb)
      rw [upd_ne hb']
      refine gp.hot b ?_
      show b ∈ w.ρ ++ (a :: (f1 ++ f2 ++ fr).map (·.1))
      exact (List.perm_middle.mem_iff).mpr (List.mem_cons_of_mem _ hb)
  · exact SlR.at_ (i := i) (.lst upd_same (DVs.fr hcle _ _ q2 hx)) (SlR.hid (w' := ⟨upd w.C a (.lst vs), []⟩) hcle sl) q1
  · obtain ⟨os1, g1, s1⟩ := r1
    have fr1 : ∀ p ∈ ps ++ (f1 ++ f2 ++ fr), H' p.1 = some p.2 := fun p hp => g1.frm p (List.mem_append_right _ hp)
    have w1a : w1.C a = some (.lst vs) := l.c a _ upd_same
    have hot1 : ∀ b ∈ w.ρ ++ (f1 ++ f2 ++ fr).map (·.1), w1.C b = none := fun b hb => g1.hot b (by
      rw [List.map_append, em]
      exact List.mem_append_right _ (List.mem_append_right _ hb))
    let C2 : Hp := fun b => if b = a then none else w1.C b
    have c2 : ∀ b o, w1.C b = some o → b ≠ a → C2 b = some o := fun b o e hb => by show (if b = a then none else w1.C b) = some o; rw [if_neg hb]; exact e
    have c2' : ∀ b o, C2 b = some o → w1.C b = some o := fun b o e => by
      have e : (if b = a then none else w1.C b) = some o := e
      by_cases hb : b = a
      · rw [if_pos hb] at e; cases e
      · rw [if_neg hb] at e; exact e
    have lw : w.Le ⟨C2, w.ρ⟩ := ⟨fun b o e => c2 b o (l.c b o (hcle b o e)) (ne_of_none e hca), fun _ _ e => e⟩
    refine ⟨⟨C2, w.ρ⟩, lw, ⟨_, ?_, sl.up lw⟩, fun d v hd hv => DV.off w1a c2 d v hv hd⟩
    have g2 : RG M ⟨C2, w.ρ⟩ ((a, .lst vs) :: (f1 ++ f2 ++ fr)) G H' := by
      refine ⟨fun b o e => g1.cold b o (c2' b o e), gp.len, fun n o b e1 e2 => ?_, fun p hp => ?_, gp.nd, fun b hb => ?_⟩
      · obtain ⟨ho, x1, x2⟩ := gp.obj n o b e1 e2
        have hb : b ∈ ps.map (·.1) := by rw [hp1]; exact List.mem_of_getElem? e2
        obtain ⟨p, hp, rfl⟩ := List.mem_map.mp hb
        have y1 := hp2 p hp
        rw [x1] at y1; cases y1
        exact ⟨_, fr1 p (List.mem_append_left _ hp), x2.up lw⟩
      · rcases List.mem_cons.mp hp with rfl | hp
        · exact g1.cold _ _ w1a
        · exact fr1 p (List.mem_append_right _ hp)
      · have hb : b ∈ w.ρ ++ (a :: (f1 ++ f2 ++ fr).map (·.1)) := hb
        rw [List.perm_middle.mem_iff, List.mem_cons] at hb
        show (if b = a then none else w1.C b) = none
        rcases hb with rfl | hb
        · rw [if_pos rfl]
        · by_cases hba : b = a
          · rw [if_pos hba]
          · rw [if_neg hba]; exact hot1 b hb
    exact g2.perm (by
      rw [List.append_assoc f1 f2 fr, List.append_assoc f1 (_ :: f2) fr]
      exact List.perm_middle.symm)
/-- an expression looks at the own list in slot i -/
def eBor (i : Nat) (e : ME) : ME := fun env g => match env[i]? with
  | some (.own xs) => if frDs xs then (match e (hidE env i xs) [] with
    | .ok d [] => if plD d then .ok d g else .bad
    | _ => .bad) else .bad
  | _ => .bad
def tBor (i : Nat) (e : MT) : MT := fun env g => match env[i]? with
  | some (.own xs) => if frDs xs then (match e (hidE env i xs) [] with
    | .ok d [] => .ok d g
    | _ => .bad) else .bad
  | _ => .bad
section
variable {M : Im} {W : XW} {X : Cx} {a : Expr} {ma : ME} {mt : MT}
theorem se_bor {i : Nat} (ha : SE M W X a ma) : SE M W X a (eBor i ma) := by
  obtain ⟨t, a1, a2⟩ := ha
  refine ⟨t, a1, fun w fr env G σ H Q r h => ?_⟩
  unfold eBor at h
  cases e : env[i]? with
  | none => rw [e] at h; exact h.elim
  | some s =>
    rw [e] at h
    cases s with
    | un => exact h.elim
    | val d => exact h.elim
    | own xs =>
      by_cases hx : frDs xs = true
      · simp only [hx, if_true] at h
        obtain ⟨w0, fr0, r0, k⟩ := borrow_core r e hx
        refine a2 w0 fr0 _ [] σ H Q r0 ?_
        cases e2 : ma (hidE env i xs) [] with
        | ok d g' =>
          cases g' with
          | nil =>
            rw [e2] at h
            by_cases hd : plD d = true
            · simp only [hd, if_true] at h
              intro w1 H' l1 r1 v hv
              obtain ⟨w2, l2, r2, k2⟩ := k w1 H' l1 r1
              exact h w2 H' l2 r2 v (k2 d v hd hv)
            · simp only [hd] at h; exact h.elim
          | cons o g' => rw [e2] at h; exact h.elim
        | exc x g' => rw [e2] at h; exact h.elim
        | bad => rw [e2] at h; exact h.elim
      · simp only [hx] at h; exact h.elim
theorem st_bor {i : Nat} (ha : ST M W X a mt) : ST M W X a (tBor i mt) := by
  obtain ⟨t, a1, a2⟩ := ha
  refine ⟨t, a1, fun w fr env G σ H Q r h => ?_⟩
  unfold tBor at h
  cases e : env[i]? with
  | none => rw [e] at h; exact h.elim
  | some s =>
    rw [e] at h
    cases s with
    | un => exact h.elim
    | val d => exact h.elim
    | own xs =>
      by_cases hx : frDs xs = true
      · simp only [hx, if_true] at h
        obtain ⟨w0, fr0, r0, k⟩ := borrow_core r e hx
        refine a2 w0 fr0 _ [] σ H Q r0 ?_
        cases e2 : mt (hidE env i xs) [] with
        | ok d g' =>
          cases g' with
          | nil =>
            rw [e2] at h
            intro w1 H' l1 r1
            obtain ⟨w2, l2, r2, k2⟩ := k w1 H' l1 r1
            exact h w2 H' l2 r2
          | cons o g' => rw [e2] at h; exact h.elim
        | exc x g' => rw [e2] at h; exact h.elim
        | bad => rw [e2] at h; exact h.elim
      · simp only [hx] at h; exact h.elim
end
end GL
/-! GL part 14: a, b = x, y. -/
namespace GL
open PySem L2 PyProof.Rows
def isStar : Expr → Bool
  | .Starred .. => true
  | _ => false
def nmOf (sc : Scope) (line : Nat) : Expr → Option Str
  | .Name id pos => if sc.names.lookup id == some .local && pos.line == line then some id else none
  | _ => none
/-- the names that are stored from the right, or that none are; none: not told -/
def swapT (sc : Scope) (ts vs : List Expr) : Option (Option (List Str)) :=
  if (!(ts.length == 2 || ts.length == 3) || vs.length != ts.length) = true then some none else
  if (vs.any isStar) = true then some none else
  let names := ts.filterMap (nmOf sc ((ts.head?.map (·.pos.line)).getD 0))
  if (names.length != ts.length || names.eraseDups.length != names.length) = true then some none else
  if (vs.all (foldedForSure 8)) = true then some none else
  if (vs.all (constantsAlone 8)) = true then none else some (some names)
section
variable {c : Cn} {W : XW} {N : List Str} {sc : Scope} {fnf : Str → Bool} {X : Cx} {a b e : Expr} {ml : ML} {pos p : Pos} {x y : Str}
theorem swap_aux {us vs : List Expr} {r : Option (List Str)} (h : swapT sc us vs = some r) (f : Expr → Option Str) (s : Expr → Bool) (hf : f = nmOf sc ((us.head?.map (·.pos.line)).getD 0)) (hs : s = isStar) (un : Sem PUnit) :
    (if (!(us.length == 2 || us.length == 3) || vs.length != us.length) = true then pure none else if (vs.any s) = true then pure none else
      if ((us.filterMap f).length != us.length || (us.filterMap f).eraseDups.length != (us.filterMap f).length) = true then pure none else
      if (vs.all (foldedForSure 8)) = true then pure none else if (vs.all (constantsAlone 8)) = true then (do un; pure (some (us.filterMap f))) else pure (some (us.filterMap f)) : Sem (Option (List Str))) = pure r := by
  subst hf hs
  unfold swapT at h
  split at h
  · rename_i c1; cases h; rw [if_pos c1]
  · rename_i c1
    rw [if_neg c1]
    split at h
    · rename_i c2; cases h; rw [if_pos c2]
    · rename_i c2
      rw [if_neg c2]
      simp only at h
      split at h
      · rename_i c3; cases h; rw [if_pos c3]
      · rename_i c3
        rw [if_neg c3]
        split at h
        · rename_i c4; cases h; rw [if_pos c4]
        · rename_i c4
          rw [if_neg c4]
          split at h
          · cases h
          · rename_i c5
            cases h
            rw [if_neg c5]
theorem swap_eq (o : OkX c N sc fnf X) (hk : isFnK sc.kind = true) {us vs : List Expr} {k1 k2 : Nat} {p1 p2 : Pos} {r : Option (List Str)} (h : swapT sc us vs = some r) : swappedStores [.Tuple us k1 p1] (.Tuple vs k2 p2) X.env = pure r := by
  have hk' : X.env.scope.kind = .function := by rw [o.s]; exact isFnK_eq hk
  have hb : X.env.blockKind = .function := by unfold Env.blockKind; rw [hk']; rfl
  have e1 : ∀ id : Str, X.env.kindOf id = sc.names.lookup id := fun id => by unfold Env.kindOf; rw [o.s]
  simp only [swappedStores]
  simp only [hb, bne_self_eq_false, Bool.or_false]
  refine swap_aux h _ _ ?_ ?_ _
  · funext q
    cases q <;> simp only [nmOf, e1]
  · funext q
    cases q <;> rfl
theorem w_par2 (o : OkX c N sc fnf X) (i j : Nat) {px py pt : Pos} {kt k2 pt2} (hi : chkT N sc fnf i x = true) (hj : chkT N sc fnf j y = true) (hij : i ≠ j) (hx : decide (sc.names.lookup x = some .local) = true) (hy : decide (sc.names.lookup y = some .local) = true) (ha : SA c.M W X [a, b] ml)
    (hk : isFnK sc.kind = true) (hw : decide (swapT sc [.Name x px, .Name y py] [a, b] = some (some [x, y])) = true) :
    SS c.M W X (.Assign [.Tuple [.Name x px, .Name y py] kt pt] (.Tuple [a, b] k2 pt2) pos) (sPar i j ml) :=
  w_par o i j hi hj hij hx hy ha (swap_eq o hk (of_decide_eq_true hw)) rfl
/-- several targets that are no plain names -/
theorem w_asgT (o : OkX c N sc fnf X) {us vs : List Expr} {k1 k2 : Nat} {p1 p2 : Pos} {ma : ME} {mg : MG} {ts : List Nat} (ha : SE c.M W X (.Tuple vs k2 p2) ma) (hg : SG c.M X (.Tuple us k1 p1) ts mg) (hk : isFnK sc.kind = true) (hw : decide (swapT sc us vs = some none) = true) :
    SS c.M W X (.Assign [.Tuple us k1 p1] (.Tuple vs k2 p2) pos) (sAsg ma mg) := ss_asg ha hg rfl (swap_eq o hk (of_decide_eq_true hw)) rfl
end
end GL
namespace GL
open PySem L2 PyProof.Rows
theorem fnG_D {P : Program} {wo : World} {M : Im} {base : Heap} {k : Nat} {f : Addr} {fd : FuncData} {x qual : Str} {params : Arguments} {body : List Stmt} {scope : Scope} {dvs : List V} {kws : List (Str × V)} {N ps : List Str} {b : MS}
    (F : FunD M.K x qual params body scope dvs kws f fd) (S : FnScope N ps scope) (hbody : ∀ X, OkX ⟨P, wo, M, base, k⟩ N scope allT X → SSs M W0 X body b) : FnG P wo M base (k + 1) f fd ps (mFun ps.length N.length b) := by
  obtain ⟨oc, od, dV, kV, doc, pm, an, cdv, ct, osl, rfl, lk, hcd, _, _⟩ := F.ex
  exact fnG_of lk hcd S hbody
theorem fnG_0 {P : Program} {wo : World} {M : Im} {base : Heap} {f : Addr} {fd : FuncData} {ps : List Str} : FnG P wo M base 0 f fd ps (fun _ _ => .bad) := ⟨fun _ _ _ _ _ _ _ _ _ _ _ _ _ _ _ _ _ _ _ h => h.elim⟩
theorem bnd_of {M : Im} {f : Addr} {fd : FuncData} {x qual : Str} {params : Arguments} {body : List Stmt} {scope : Scope} {ps ks : List Str} {n : Nat} {pm : List Nat} (F : FunD M.K x qual params body scope [] [] f fd)
    (h : ∀ (kV doc pm' : Value) (an : Option Addr) (cdv ct : Value) (us ws : List Value), us.length = n → ws.length = ks.length → bindArgs (PySem.W.fnOf x qual params body scope .none kV doc pm' an cdv ct) ⟨us, ks.zip ws⟩ = pure (ps.zip (permL pm (us ++ ws ++ [])))) : Bnd M fd ps n ks pm [] := by
  obtain ⟨oc, od, dV, kV, doc, pm', an, cdv, ct, osl, rfl, lk, hcd, hD, _⟩ := F.ex
  rcases hD with ⟨_, rfl⟩ | ⟨q, _⟩
  · exact Bnd.plain fun us ws h1 h2 => h kV doc pm' an cdv ct us ws h1 h2
  · exact absurd rfl q
theorem funD_mk {K : PySem.W.Frag} {x qual : Str} {st : Stmt} {f : Addr} {oc : Value} {od an : Option Addr} {osl : Array (Option Value)} {kV doc pm cdv ct : Value} (l : K.lookup f = some ⟨oc, od, .func (PySem.W.fnOf x qual (defArgs st) (defBody st) (defScope st) .none kV doc pm an cdv ct), osl⟩)
    (c : PySem.W.codeIn K cdv qual = true) (k : PySem.W.keepIn K (.ref f) = true) : FunD K x qual (defArgs st) (defBody st) (defScope st) [] [] f (PySem.W.fnOf x qual (defArgs st) (defBody st) (defScope st) .none kV doc pm an cdv ct) :=
  ⟨⟨oc, od, .none, kV, doc, pm, an, cdv, ct, osl, rfl, l, c, .inl ⟨rfl, rfl⟩, .inl rfl⟩, k⟩
end GL
/-! GL part 6a: (a, b, ..) = a list or a tuple, with one starred name. -/
namespace GL
open PySem PySem.Spec PyProof.Rows L2
section
variable {prog : Program} {w : World} {A : Around} {E : Value → Shared → Prop} {I : Addr} {fp wr : List Addr} {items : Array Value} {S : Nat → Heap → Prop}
/-- so many items are drawn -/
theorem draw_walk (W : Walks prog w A I fp wr items.size (fun i v => items[i]? = some v) S) : ∀ (m i : Nat) (s : Shared) (Q : List Value → Shared → Prop), i + m ≤ items.size → S i s.heap →
    (∀ h' tk, S (i + m) h' → (∀ b o, b ∉ wr → s.heap.get? b = some o → h'.get? b = some o) → Q ((items.toList.drop i).take m) { s with heap := h', toks := tk }) → wpAny (model prog w) A (draw (.ref I) m) Q E s
  | 0, i, s, Q, _, st, hQ => by
    show wpAny _ _ (pure []) Q E s
    exact wpAny_pure (by simpa using hQ s.heap s.toks st fun _ _ _ e => e)
  | m + 1, i, s, Q, hle, st, hQ => by
    have hlt : i < items.size := by omega
    show wpAny _ _ (pyNext (.ref I) >>= _) Q E s
    refine wpAny_bind (W.item i s _ _ hlt st fun v h₁ tk₁ hv st₁ k₁ => ?_)
    have hv : v = items[i] := by
      have e : items[i]? = some items[i] := by simp [hlt]
      rw [e] at hv; exact (Option.some.inj hv).symm
    subst hv
    refine wpAny_bind (wpAny_holding (draw_walk W m (i + 1) _ _ (by omega) st₁ fun h₂ tk₂ st₂ k₂ => wpAny_pure ?_))
    have hd : items.toList.drop i = items[i] :: items.toList.drop (i + 1) := by simp [List.drop_eq_getElem_cons, hlt]
    have := hQ h₂ tk₂ (by rw [show i + (m + 1) = i + 1 + m by omega]; exact st₂) fun b o hb e => k₂ b o hb (k₁ b o hb e)
    rw [hd, List.take_succ_cons] at this
    exact this
/-- a walk from its i-th turn on -/
theorem walk_from (W : Walks prog w A I fp wr items.size (fun i v => items[i]? = some v) S) (i : Nat) (hi : i ≤ items.size) : Walks prog w A I fp wr (items.size - i) (fun j v => items[i + j]? = some v) (fun j h => S (i + j) h) where
  sub := W.sub
  frame := fun j h h' st k => W.frame (i + j) h h' st k
  item := fun j s Q E hj st hQ => W.item (i + j) s Q E (by omega) st fun v h' tk hv st' k => hQ v h' tk hv st' k
  done := fun s Q E st hQ => W.done s Q E (by rw [show i + (items.size - i) = items.size by omega] at st; exact st) hQ
  self := fun j s Q E st hQ => W.self (i + j) s Q E st hQ
end
section
variable {prog : Program} {w : World} {A : Around} {E : Value → Shared → Prop} {s : Shared}
/-- what an iterable must be for unpacking: its iterator is new and walks its items -/
structure Unp (prog : Program) (w : World) (A : Around) (s : Shared) (v : Value) (items : Array Value) : Prop where
  it : ∀ (Q : Bool → Shared → Prop) (E : Value → Shared → Prop), Q false s → wpAny (model prog w) A (notIterableAtAll v) Q E s
  go : ∃ (T : String) (h1 : Heap) (fp : List Addr) (S : Nat → Heap → Prop), (T = "list_iterator" ∨ T = "tuple_iterator") ∧
    (∀ (Q : Value → Shared → Prop) (E : Value → Shared → Prop), Q (.ref s.heap.objs.size) { s with heap := h1 } → wpAny (model prog w) A (pyIter v) Q E s) ∧
    (∀ b o, s.heap.get? b = some o → h1.get? b = some o) ∧ s.heap.objs.size < h1.objs.size ∧ (∀ b ∈ fp, b < h1.objs.size) ∧ s.heap.objs.size ∈ fp ∧ S 0 h1 ∧
    (∀ i h, S i h → ∃ o, h.get? s.heap.objs.size = some o ∧ o.cls = .type T) ∧ (∀ i h b, S i h → b ∈ fp → b < h.objs.size) ∧
    (∀ B : Around, B.handled = none → Walks prog w B s.heap.objs.size fp [s.heap.objs.size] items.size (fun i v => items[i]? = some v) S)
theorem unp_tuple {t : Addr} {items : Array Value} (ht : s.heap.IsTuple t items) : Unp prog w A s (.ref t) items where
  it := fun Q E h => by
    unfold notIterableAtAll
    exact wpAny_bind (wpAny_specialOf ht.typeIs F.slot_tuple_iter.lookup (wpAny_pure h))
  go := by
    have hlt : t < s.heap.objs.size := by obtain ⟨o, ho, _⟩ := ht; exact Heap.lt_size ho
    refine ⟨"tuple_iterator", _, [s.heap.objs.size, t], fun i h => h.IsTupleIter s.heap.objs.size t i ∧ h.IsTuple t items, .inr rfl, fun Q E h => wpAny_pyIter_tuple ht h, fun b o e => Heap.get?_push_of_some _ e, ?_, ?_, by simp, ⟨⟨_, Heap.get?_push_size _ rfl, rfl, rfl⟩, ht.push _⟩, fun i h st => ?_, fun i h b st hb => ?_, fun B hB => Walks.tuple hB _ _ (Nat.ne_of_lt hlt) items⟩
    · rw [Heap.size_push]; omega
    · intro b hb
      rw [Heap.size_push]
      simp at hb
      rcases hb with rfl | rfl
      · exact Nat.lt_succ_self _
      · exact Nat.lt_succ_of_lt hlt
    · obtain ⟨o, h1, h2, _⟩ := st.1; exact ⟨o, h1, h2⟩
    · simp at hb
      rcases hb with rfl | rfl
      · obtain ⟨o, h1, _⟩ := st.1; exact Heap.lt_size h1
      · obtain ⟨o, h1, _⟩ := st.2; exact Heap.lt_size h1
theorem unp_list {t : Addr} {items : Array Value} (ht : s.heap.IsList t items) : Unp prog w A s (.ref t) items where
  it := fun Q E h => by
    unfold notIterableAtAll
    exact wpAny_bind (wpAny_specialOf ht.typeIs slot_list_iter.lookup (wpAny_pure h))
  go := by
    have hlt : t < s.heap.objs.size := by obtain ⟨o, ho, _⟩ := ht; exact Heap.lt_size ho
    refine ⟨"list_iterator", _, [s.heap.objs.size, t], fun i h => h.IsListIter s.heap.objs.size t i ∧ h.IsList t items, .inl rfl, fun Q E h => wpAny_pyIter_list ht h, fun b o e => Heap.get?_push_of_some _ e, ?_, ?_, by simp, ⟨⟨_, Heap.get?_push_size _ rfl, rfl, rfl⟩, ht.push _⟩, fun i h st => ?_, fun i h b st hb => ?_, fun B hB => Walks.list hB _ _ (Nat.ne_of_lt hlt) items⟩
    · rw [Heap.size_push]; omega
    · intro b hb
      rw [Heap.size_push]
      simp at hb
      rcases hb with rfl | rfl
      · exact Nat.lt_succ_self _
      · exact Nat.lt_succ_of_lt hlt
    · obtain ⟨o, h1, h2, _⟩ := st.1; exact ⟨o, h1, h2⟩
    · simp at hb
      rcases hb with rfl | rfl
      · obtain ⟨o, h1, _⟩ := st.1; exact Heap.lt_size h1
      · obtain ⟨o, h1, _⟩ := st.2; exact Heap.lt_size h1
theorem unpackItems_all {v : Value} {items : Array Value} {Q : List Value → Shared → Prop} (hh : A.handled = none) (U : Unp prog w A s v items)
    (hQ : ∀ h' tk, (∀ b o, s.heap.get? b = some o → h'.get? b = some o) → Q items.toList { s with heap := h', toks := tk }) : wpAny (model prog w) A (unpackItems v items.size none) Q E s := by
  obtain ⟨T, h1, fp, S, hT, hgo, hk1, _, hfp, hI, hS, hty, hlt, hW⟩ := U.go
  have W := hW A hh
  have off : ∀ b o, s.heap.get? b = some o → b ∉ [s.heap.objs.size] := fun b o e hb => by
    simp at hb
    exact absurd (Heap.lt_size e) (by rw [hb]; exact Nat.lt_irrefl _)
  unfold unpackItems
  refine wpAny_bind (U.it _ _ ?_)
  simp only [Bool.false_eq_true, if_false]
  refine wpAny_bind (wpAny_holding (hgo _ _ ?_))
  refine wpAny_bind (wpAny_holding (draw_walk W items.size 0 _ _ (by omega) hS fun h₁ tk₁ st₁ k₁ => ?_))
  have hall : List.take items.size (List.drop 0 items.toList) = items.toList := by
    rw [List.drop_zero]; exact List.take_of_length_le (by simp)
  rw [hall]
  rw [if_neg (by simp)]
  refine wpAny_bind (wpAny_holding (W.done _ _ _ (by simpa using st₁) fun h₂ tk₂ k₂ => ?_))
  simp only [Option.isSome_none, Bool.false_eq_true, if_false]
  exact wpAny_pure (hQ h₂ tk₂ fun b o e => k₂ b o (off b o e) (k₁ b o (off b o e) (hk1 b o e)))
theorem unpackItems_star {v : Value} {items : Array Value} {n i : Nat} {Q : List Value → Shared → Prop} (hh : A.handled = none) (U : Unp prog w A s v items) (hz : items.size ≤ sizeLine) (hi : i < n) (hn : n - 1 ≤ items.size)
    (hQ : ∀ (h' : Heap) (tk : Nat), (∀ b o, s.heap.get? b = some o → h'.get? b = some o) →
      Q (items.toList.take i ++ [.ref h'.objs.size] ++ (items.toList.drop i).drop (items.size - i - (n - 1 - i))) { s with heap := h'.push { cls := .type "list", data := .seq ((items.toList.drop i).take (items.size - i - (n - 1 - i))).toArray }, toks := tk }) :
    wpAny (model prog w) A (unpackItems v n (some i)) Q E s := by
  obtain ⟨T, h1, fp, S, hT, hgo, hk1, hsz1, hfp, hI, hS, hty, hlt, hW⟩ := U.go
  have W := hW A hh
  have off : ∀ b o, s.heap.get? b = some o → b ∉ [s.heap.objs.size] := fun b o e hb => by
    simp at hb
    exact absurd (Heap.lt_size e) (by rw [hb]; exact Nat.lt_irrefl _)
  unfold unpackItems
  refine wpAny_bind (U.it _ _ ?_)
  simp only [Bool.false_eq_true, if_false]
  refine wpAny_bind (wpAny_holding (hgo _ _ ?_))
  refine wpAny_bind (wpAny_holding (draw_walk W i 0 _ _ (by omega) hS fun h₁ tk₁ st₁ k₁ => ?_))
  rw [List.drop_zero]
  rw [if_neg (by simp; omega)]
  have W1 := (walk_from (hW A.in1 hh) i (by omega)).toS
  have st₁' : S (i + 0) h₁ := by simpa using st₁
  refine wpAny_bind (wpAny_holding (wpAny_collect_iter (T := T) (by rcases hT with e | e; exact .inr (.inr (.inl e)); exact .inr (.inr (.inr e))) W1 (fun j s' st => ?_) st₁' (fun b hb => hlt _ _ b st₁ hb) hI (fun s' acc hm hit => ?_) (by omega)))
  · obtain ⟨o, e1, e2⟩ := hty _ _ st; exact ⟨o, e1, e2⟩
  · have hacc : acc.toList = items.toList.drop i := by
      apply List.ext_getElem?
      intro j
      rw [List.getElem?_drop]
      by_cases hj : j < acc.size
      · have e1 : acc[j]? = some acc[j] := by simp [hj]
        have e2 := hit.2 j _ e1
        have e3 : acc.toList[j]? = some acc[j] := by simp [hj]
        rw [e3]
        have e4 : items.toList[i + j]? = items[i + j]? := by simp
        rw [e4]; exact e2.symm
      · have e1 := hit.1
        rw [List.getElem?_eq_none (by simp; omega), List.getElem?_eq_none (by simp; omega)]
    rw [hacc]
    have hlen : (items.toList.drop i).length = items.size - i := by simp
    rw [hlen]
    rw [if_neg (by omega)]
    have hmid : items.size - i - (n - 1 - i) = items.size - i - (n - 1 - i) := rfl
    refine wpAny_bind (wpAny_newObj_type (wpAny_pure ?_) (by show (List.toArray _).size ≤ sizeLine; rw [List.size_toArray, List.length_take, List.length_drop, Array.length_toList]; omega))
    obtain ⟨hp, gn, dr, tk, os⟩ := s'
    have g1 := hm.gens
    have g2 := hm.drawn
    have g3 := hm.os
    simp only at g1 g2 g3
    subst g1 g2 g3
    have hk : ∀ b o, s.heap.get? b = some o → hp.get? b = some o := fun b o e => hm.heap b o (off b o e) (k₁ b o (off b o e) (hk1 b o e))
    exact hQ hp tk hk
end
/-- a sequence's items by values -/
def SqA (K : PySem.W.Frag) (H : Hp) (a : Addr) (xs : List V) : Prop := SqT K H a xs ∨ SqL K H a xs
theorem SqA.unp {X : Cx} {pins : List (Addr × Obj)} {σ : L2.St} {H : Hp} {s : Shared} {a : Addr} {xs : List V} (I : Inv X pins σ H s) (h : SqA X.K H a xs) : ∃ its : List Value, Vals xs its ∧ xs.length ≤ sizeLine ∧ Unp X.prog X.w X.A s (.ref a) its.toArray := by
  rcases h with h | h
  · obtain ⟨its, r, p, z⟩ := I.tuple h
    exact ⟨its, r, z, unp_tuple p⟩
  · obtain ⟨its, r, p, z⟩ := I.list h
    exact ⟨its, r, z, unp_list p.isList⟩
def gSeq (K : PySem.W.Frag) (n : Nat) (t : TGs) : TG := fun v σ H Q => ∃ a xs, v = .ref a ∧ SqA K H a xs ∧ xs.length = n ∧ t xs σ H Q
theorem pg_seq {X : Cx} {pos : Pos} {es : List Expr} {k : Nat} {t : TGs} {n : Nat} (hc : X.calm = true) (h : PGs X es t)
    (hn : (assignEach es X.env).length = n := by rfl) (hst : (assignEach es X.env).findIdx? (·.1) = none := by rfl) : PG X (.Tuple es k pos) (gSeq X.K n t) := by
  refine ⟨fun pins s σ H v u Q I r hw => ?_⟩
  obtain ⟨a, xs, e1, hq, hl, hw⟩ := hw
  subst e1
  cases r
  obtain ⟨its, rv, hz, U⟩ := hq.unp I
  rw [arm_assign_Tuple]
  refine wpAny_bind (wpAny_standAt ?_)
  unfold unpack
  rw [hst, show (assignEach es X.env).length = its.toArray.size by simp [hn, ← hl, rv.length]]
  refine wpAny_bind (wpAny_holding (unpackItems_all (I.ok.hd hc) U fun h' tk k => ?_))
  exact h.run pins _ σ H xs _ Q (I.kept (t' := tk) k) (by simpa using rv) hw
/-- one starred name at place i of n -/
def gStr (K : PySem.W.Frag) (i n : Nat) (t : TGs) : TG := fun v σ H Q => ∃ a xs, v = .ref a ∧ SqA K H a xs ∧ n - 1 ≤ xs.length ∧
  ∀ p, H p = none → t (xs.take i ++ [.ref p] ++ (xs.drop i).drop (xs.length - i - (n - 1 - i))) σ (upd H p (.lst ((xs.drop i).take (xs.length - i - (n - 1 - i))))) Q
theorem vals_drop {xs : List V} {us : List Value} (h : Vals xs us) (n : Nat) : Vals (xs.drop n) (us.drop n) := by
  induction h generalizing n with
  | nil => simp; exact .nil
  | cons a b ih => cases n with
    | zero => exact .cons a b
    | succ n => exact ih n
theorem vals_take {xs : List V} {us : List Value} (h : Vals xs us) (n : Nat) : Vals (xs.take n) (us.take n) := by
  induction h generalizing n with
  | nil => simp; exact .nil
  | cons a b ih => cases n with
    | zero => exact .nil
    | succ n => exact .cons a (ih n)
theorem vals_app {xs ys : List V} {us vs : List Value} (h : Vals xs us) (h' : Vals ys vs) : Vals (xs ++ ys) (us ++ vs) := by
  induction h with
  | nil => exact h'
  | cons a b ih => exact .cons a ih
theorem pg_star {X : Cx} {pos : Pos} {es : List Expr} {k : Nat} {t : TGs} {n i : Nat} (hc : X.calm = true) (h : PGs X es t)
    (hn : (assignEach es X.env).length = n) (hi : i < n) (hst : (assignEach es X.env).findIdx? (·.1) = some i) : PG X (.Tuple es k pos) (gStr X.K i n t) := by
  refine ⟨fun pins s σ H v u Q I r hw => ?_⟩
  obtain ⟨a, xs, e1, hq, hl, hw⟩ := hw
  subst e1
  cases r
  obtain ⟨its, rv, hz, U⟩ := hq.unp I
  have hlen : its.toArray.size = xs.length := by simp [rv.length]
  rw [arm_assign_Tuple]
  refine wpAny_bind (wpAny_standAt ?_)
  unfold unpack
  rw [hst, hn]
  refine wpAny_bind (wpAny_holding (unpackItems_star (I.ok.hd hc) U (by rw [hlen]; exact hz) hi (by rw [hlen]; exact hl) fun h' tk k => ?_))
  have I1 : Inv X pins σ H { s with heap := h' } := I.kept (t' := s.toks) k
  rw [hlen]
  have hts : ∀ l : List Value, l.toArray.toList = l := fun l => rfl
  rw [hts its]
  refine h.run pins _ σ _ _ _ Q (I1.laid (t' := tk) (a := h'.objs.size) (o := .lst ((xs.drop i).take (xs.length - i - (n - 1 - i)))) (fun b u e => Heap.get?_push_of_some _ e) (Nat.le_refl _) ⟨?_, _, 0, vals_take (vals_drop rv i) _, Heap.get?_push_size _ rfl⟩) ?_ (hw _ (I1.hok.fresh (Nat.le_refl _)))
  · rw [List.length_take, List.length_drop]; omega
  · exact vals_app (vals_app (vals_take rv i) (.cons rfl .nil)) (vals_drop (vals_drop rv i) _)
theorem pgs_consS {X : Cx} {e : Expr} {p : Pos} {es : List Expr} {t : TG} {u : TGs} (h1 : PG X e t) (h2 : PGs X es u)
    (hs : (assignEach (.Starred e p :: es) X.env).map (·.2) = assign e X.env :: (assignEach es X.env).map (·.2) := by rfl) : PGs X (.Starred e p :: es) (gCons t u) := by
  refine ⟨fun pins s σ H vs us Q I r h => ?_⟩
  obtain ⟨v, vr, e1, h⟩ := h
  subst e1
  cases r with
  | cons r rr =>
    rw [hs]
    exact assignInOrder_cons (thn (h1.run pins s σ H _ _ _ I r h) fun _ s1 ⟨σ1, H1, I1, q1⟩ => h2.run pins s1 σ1 H1 _ _ Q I1 rr q1)
/-- the items of a tuple or a list -/
def itsD : D → Option (List D)
  | .tup xs => some xs
  | .lst xs => some xs
  | _ => none
theorem its_DV {M : Im} {w : Wd} {d : D} {v : V} {xs : List D} {H : Hp} (hc : ∀ a o, w.C a = some o → H a = some o) (h : DV M w d v) (e : itsD d = some xs) : ∃ a vs, v = .ref a ∧ SqA M.K H a vs ∧ DVs M w xs vs := by
  cases h with
  | tup a b => cases e; exact ⟨_, _, rfl, .inl (SqT.mono hc a), b⟩
  | lst a b => cases e; exact ⟨_, _, rfl, .inr (.inl (.inl (hc _ _ a))), b⟩
  | _ => cases e
def gSq (n : Nat) (b : MGs) : MG := fun d env => match itsD d with
  | some xs => if xs.length = n then b xs env else none
  | none => none
/-- (.., *x, ..) with the star at place i of n -/
def gSt (i n : Nat) (b : MGs) : MG := fun d env => match itsD d with
  | some xs => if n - 1 ≤ xs.length ∧ xs.length ≤ LIM then b (xs.take i ++ [.lst ((xs.drop i).take (xs.length - i - (n - 1 - i)))] ++ (xs.drop i).drop (xs.length - i - (n - 1 - i))) env else none
  | none => none
section
variable {M : Im} {W : XW} {X : Cx} {k : Nat} {pos : Pos}
theorem sg_seq (g : GX M k X) {es : List Expr} {kk n : Nat} {m : MGs} {ts : List Nat} (h : SGs M X es ts m) (hn : (assignEach es X.env).length = n) (hst : (assignEach es X.env).findIdx? (·.1) = none) : SG M X (.Tuple es kk pos) ts (gSq n m) := by
  obtain ⟨t, a1, a2⟩ := h
  refine ⟨_, pg_seq g.calm a1 hn hst, fun w fr env G σ H Q d v r hd h => ?_⟩
  unfold gSq at h
  cases e : itsD d with
  | none => rw [e] at h; exact h.elim
  | some xs =>
    rw [e] at h
    obtain ⟨a, vs, rfl, q1, q2⟩ := its_DV r.cold hd e
    by_cases hl : xs.length = n
    · simp only [hl, if_true] at h
      exact ⟨a, vs, rfl, by rw [g.K]; exact q1, by rw [← q2.length]; exact hl, a2 w fr env G σ H Q xs vs r q2 h⟩
    · simp only [hl, if_false] at h; exact h.elim
theorem sgs_star {e : Expr} {p : Pos} {es : List Expr} {m1 : MG} {m2 : MGs} {ts us : List Nat} (h1 : SG M X e ts m1) (h2 : SGs M X es us m2) (hs : (assignEach (.Starred e p :: es) X.env).map (·.2) = assign e X.env :: (assignEach es X.env).map (·.2)) : SGs M X (.Starred e p :: es) (ts ++ us) (gsCons m1 m2) := by
  obtain ⟨t, a1, a2⟩ := h1
  obtain ⟨u, b1, b2⟩ := h2
  refine ⟨_, pgs_consS a1 b1 hs, fun w fr env G σ H Q ds vs r hd h => ?_⟩
  cases hd with
  | nil => exact h.elim
  | cons hd hds =>
    rename_i d v ds vs
    refine ⟨v, vs, rfl, a2 w fr env G σ H _ d v r hd ?_⟩
    have h : PostG M fr w G σ (ts ++ us) Q ((m1 d env).bind fun env1 => m2 ds env1) := h
    cases e : m1 d env with
    | none => rw [e] at h; exact h.elim
    | some env1 =>
      rw [e] at h
      have h : PostG M fr w G σ (ts ++ us) Q (m2 ds env1) := h
      intro w' σ' H' l r' ag
      refine b2 w' fr env1 G σ' H' Q ds vs r' (hds.up l) ?_
      cases e2 : m2 ds env1 with
      | none => rw [e2] at h; exact h.elim
      | some env2 =>
        rw [e2] at h
        exact fun w2 σ2 H2 l2 r2 ag2 => h w2 σ2 H2 (l.trans l2) r2 (ag.trans ag2)
theorem sg_star (g : GX M k X) {es : List Expr} {kk n i : Nat} {m : MGs} {ts : List Nat} (h : SGs M X es ts m) (hn : (assignEach es X.env).length = n) (hi : i < n) (hst : (assignEach es X.env).findIdx? (·.1) = some i) : SG M X (.Tuple es kk pos) ts (gSt i n m) := by
  obtain ⟨t, a1, a2⟩ := h
  refine ⟨_, pg_star g.calm a1 hn hi hst, fun w fr env G σ H Q d v r hd h => ?_⟩
  unfold gSt at h
  cases e : itsD d with
  | none => rw [e] at h; exact h.elim
  | some xs =>
    rw [e] at h
    obtain ⟨a, vs, rfl, q1, q2⟩ := its_DV r.cold hd e
    by_cases hl : n - 1 ≤ xs.length ∧ xs.length ≤ LIM
    · simp only [hl, and_self, if_true] at h
      refine ⟨a, vs, rfl, by rw [g.K]; exact q1, by rw [← q2.length]; exact hl.1, fun p hp => ?_⟩
      obtain ⟨l, r1⟩ := r.newCold (o := .lst ((vs.drop i).take (vs.length - i - (n - 1 - i)))) hp
      rw [q2.length] at h
      have dm : DVs M ⟨upd w.C p (.lst ((vs.drop i).take (vs.length - i - (n - 1 - i)))), w.ρ⟩ [.lst ((xs.drop i).take (vs.length - i - (n - 1 - i)))] [.ref p] :=
        .one (.lst upd_same (((q2.drop i).take _).up l))
      refine a2 _ fr env G σ _ Q _ _ r1 (DVs.append (DVs.append ((q2.take i).up l) dm) (((q2.drop i).drop _).up l)) ?_
      cases e2 : m (xs.take i ++ [.lst ((xs.drop i).take (vs.length - i - (n - 1 - i)))] ++ (xs.drop i).drop (vs.length - i - (n - 1 - i))) env with
      | none => rw [e2] at h; exact h.elim
      | some env2 =>
        rw [e2] at h
        exact fun w2 σ2 H2 l2 r2 ag2 => h w2 σ2 H2 (l.trans l2) r2 ag2
    · simp only [hl, if_false] at h; exact h.elim
end
end GL
/-! GL part 14b: the module's constants; unpacking, as wrappers. -/
namespace GL
open PySem L2 PyProof.Rows
/-- a constant of the module -/
def KC (c : Cn) (x : Str) (d : D) : Prop := ∃ v u, c.M.mg x = some u ∧ RelV v u ∧ ∀ w, DV c.M w d v
section
variable {c : Cn} {N : List Str} {sc : Scope} {fnf : Str → Bool} {X : Cx} {W : XW} {x : Str} {d : D} {pos : Pos} {es : List Expr}
theorem w_const (o : OkX c N sc fnf X) (k : KC c x d) (h : chkG sc x = true) : SE c.M W X (.Name x pos) (eC d) := by
  obtain ⟨v, u, h1, h2, h3⟩ := k
  exact se_glob o.g (chkG_gl o h).1 h1 h2 h3 (chkG_gl o h).2.1
theorem kc_str {z : Str} {t : Tok} (h : c.M.mg x = some (.str z t)) : KC c x (.str z) := ⟨.str z, _, h, ⟨t, rfl⟩, fun _ => .str z⟩
theorem kc_int {i : Int} {t : Tok} (h : c.M.mg x = some (.int i t)) : KC c x (.int i) := ⟨.int i, _, h, ⟨t, rfl⟩, fun _ => .int i⟩
/-- data without names of objects, as it stands in the written part -/
inductive KD (K : PySem.W.Frag) : D → Value → Prop
  | non : KD K .non .none
  | bl (b : Bool) : KD K (.bl b) (.bool b)
  | int (i : Int) (t : Tok) : KD K (.int i) (.int i t)
  | str (z : Str) (t : Tok) : KD K (.str z) (.str z t)
theorem KD.dv {K : PySem.W.Frag} {d : D} {u : Value} (h : KD K d u) : ∃ v, RelV v u ∧ ∀ (M : Im) w, DV M w d v := by
  cases h with
  | non => exact ⟨.non, rfl, fun _ _ => .non⟩
  | bl b => exact ⟨.bl b, rfl, fun _ _ => .bl b⟩
  | int i t => exact ⟨.int i, ⟨t, rfl⟩, fun _ _ => .int i⟩
  | str i t => exact ⟨.str i, ⟨t, rfl⟩, fun _ _ => .str i⟩
inductive KDs (K : PySem.W.Frag) : List D → List Value → Prop
  | nil : KDs K [] []
  | cons {d : D} {u : Value} {ds : List D} {us : List Value} : KD K d u → KDs K ds us → KDs K (d :: ds) (u :: us)
theorem KDs.dv {K : PySem.W.Frag} : ∀ {ds : List D} {us : List Value}, KDs K ds us → ∃ vs, Vals vs us ∧ ∀ (M : Im) w, DVs M w ds vs
  | _, _, .nil => ⟨[], .nil, fun _ _ => .nil⟩
  | _, _, .cons a b => by
    obtain ⟨v, h1, h2⟩ := a.dv
    obtain ⟨vs, h3, h4⟩ := KDs.dv b
    exact ⟨v :: vs, .cons h1 h3, fun M w => .cons (h2 M w) (h4 M w)⟩
theorem kc_tup {a : Addr} {od : Option Addr} {its : Array Value} {n : Nat} {sl : Array (Option Value)} {ds : List D} (h : c.M.mg x = some (.ref a)) (l : c.M.K.lookup a = some ⟨.type "tuple", od, .seq its n, sl⟩) (hz : its.size ≤ sizeLine) (hd : KDs c.M.K ds its.toList) : KC c x (.tup ds) := by
  obtain ⟨vs, h1, h2⟩ := hd.dv
  exact ⟨.ref a, _, h, rfl, fun w => .tup (.inr ⟨_, its, n, l, rfl, rfl, hz, h1⟩) (h2 _ w)⟩
theorem w_seq (o : OkX c N sc fnf X) {kk n : Nat} {m : MGs} {ts : List Nat} (h : SGs c.M X es ts m) (hn : (assignEach es X.env).length = n) (hst : (assignEach es X.env).findIdx? (·.1) = none) : SG c.M X (.Tuple es kk pos) ts (gSq n m) := sg_seq o.g h hn hst
theorem w_star (o : OkX c N sc fnf X) {kk n i : Nat} {m : MGs} {ts : List Nat} (h : SGs c.M X es ts m) (hi : i < n) (hn : (assignEach es X.env).length = n) (hst : (assignEach es X.env).findIdx? (·.1) = some i) : SG c.M X (.Tuple es kk pos) ts (gSt i n m) := sg_star o.g h hn hi hst
end
/-- a, b = e, a new list that the frame keeps to itself -/
def sParOwn (i j : Nat) (a : ME) (l : ML) : MS := fun env g => (a env g).bindS fun x g1 => (l env g1).bindS fun xs g2 => if j < env.length then .nx ((env.set i (.val x)).set j (.own xs)) g2 else .bad
theorem RS.setOwnNew {M : Im} {w : Wd} {fr : List (Addr × HO)} {env : Env'} {G : Gh} {σ : L2.St} {H : Hp} {xs : List D} {vs : List V} {p : Addr} (j : Nat) (hl : j < env.length) (r : RS M w fr env G σ H) (dvs : DVs M w xs vs) (hp : H p = none) : RS M w fr (env.set j (.own xs)) G (σ.set j (some (.ref p))) (upd H p (.lst vs)) := by
  obtain ⟨os, g1, sl⟩ := r
  obtain ⟨o1, o2, q1, q2, q3⟩ := sl.setOwn (a := p) dvs j hl
  have g2 := (g1.less (q1.append (List.Sublist.refl fr))).newFr (o := .lst vs) hp
  exact ⟨o2, g2.perm (q2.append_right fr), q3⟩
section
variable {c : Cn} {N : List Str} {sc : Scope} {fnf : Str → Bool} {X : Cx} {W : XW} {x y : Str} {pos : Pos} {a b : Expr} {ma : ME} {ml : ML}
theorem w_parOwn (o : OkX c N sc fnf X) (i j : Nat) {px py pt : Pos} {kt k2 pt2} (hi : chkT N sc fnf i x = true) (hj : chkT N sc fnf j y = true) (hij : i ≠ j) (hx : decide (sc.names.lookup x = some .local) = true) (hy : decide (sc.names.lookup y = some .local) = true)
    (ha : SE c.M W X a ma) (hl : SF c.M W X b ml) (hs1 : starEach [a, b] X.env = (false, eval a X.env) :: starEach [b] X.env) (hs2 : starEach [b] X.env = (false, eval b X.env) :: starEach [] X.env)
    (hk : isFnK sc.kind = true) (hw : decide (swapT sc [.Name x px, .Name y py] [a, b] = some (some [x, y])) = true) :
    SS c.M W X (.Assign [.Tuple [.Name x px, .Name y py] kt pt] (.Tuple [a, b] k2 pt2) pos) (sParOwn i j ma ml) := by
  obtain ⟨ta, a1, a2⟩ := ha
  obtain ⟨tb, b1, b2⟩ := hl
  refine ⟨_, ps_par o.g.calm o.g.nd (chkT_of o hi).1 (chkT_of o hj).1 hij (by rw [o.s]; exact of_decide_eq_true hx) (by rw [o.s]; exact of_decide_eq_true hy) (pa_cons a1 (pa_cons b1 pa_nil hs2) hs1) (swap_eq o hk (of_decide_eq_true hw)) rfl, fun w fr env G σ H D r h => ?_⟩
  refine a2 w fr env G σ H _ r ((PostS.bind h).imp fun d w1 G1 H1 l1 r1 h1 v dv => ?_)
  refine b2 w1 fr env G1 σ H1 _ r1 ((PostS.bind h1).imp fun xs w2 G2 H2 l2 r2 h2 vs p dvs hz hp => ?_)
  by_cases hlt : j < env.length
  · rw [if_pos hlt] at h2
    refine ⟨_, _, rfl, h2 w2 _ _ (Wd.Le.refl w2) ?_⟩
    exact (r2.setVal i (dv.up l2)).setOwnNew j (by simpa using hlt) dvs hp
  · rw [if_neg hlt] at h2; exact h2.elim
end
section
variable {env : Env'} {g : Gh} {ds : List D} {y : MGs} {n i : Nat} {e : ME} {t : MT}
@[simp] theorem gSq_tup : gSq n y (.tup ds) env = if ds.length = n then y ds env else none := rfl
@[simp] theorem gSq_lst : gSq n y (.lst ds) env = if ds.length = n then y ds env else none := rfl
@[simp] theorem gSt_tup : gSt i n y (.tup ds) env = if n - 1 ≤ ds.length ∧ ds.length ≤ LIM then y (ds.take i ++ [.lst ((ds.drop i).take (ds.length - i - (n - 1 - i)))] ++ (ds.drop i).drop (ds.length - i - (n - 1 - i))) env else none := rfl
@[simp] theorem gSt_lst : gSt i n y (.lst ds) env = if n - 1 ≤ ds.length ∧ ds.length ≤ LIM then y (ds.take i ++ [.lst ((ds.drop i).take (ds.length - i - (n - 1 - i)))] ++ (ds.drop i).drop (ds.length - i - (n - 1 - i))) env else none := rfl
@[simp] theorem eBor_ap : eBor i e env g = match env[i]? with
  | some (.own xs) => if frDs xs then (match e (hidE env i xs) [] with
    | .ok d [] => if plD d then .ok d g else .bad
    | _ => .bad) else .bad
  | _ => .bad := rfl
@[simp] theorem tBor_ap : tBor i t env g = match env[i]? with
  | some (.own xs) => if frDs xs then (match t (hidE env i xs) [] with
    | .ok d [] => .ok d g
    | _ => .bad) else .bad
  | _ => .bad := rfl
end
end GL
/-! GL part 16: isinstance, list.count, own lists written at a place, the pick of two own lists, reversed lists. -/
namespace GL
open PySem L2 PyProof.Rows
/-! ### isinstance with a built-in type -/
def tyD : D → Option String
  | .non => some "NoneType" | .bl _ => some "bool" | .int _ => some "int" | .str _ => some "str" | .tup _ => some "tuple" | .lst _ => some "list" | .arr _ => some "list" | _ => none
/-- f answers isinstance(_, T) -/
def IsiK (T : String) (f : D → Option Bool) : Prop := ∀ d b, f d = some b → ∃ t, tyD d = some t ∧ kitB t T = some b
def isInt : D → Option Bool
  | .int _ | .bl _ => some true
  | .non | .str _ | .tup _ | .lst _ | .arr _ => some false
  | _ => none
def isBool : D → Option Bool
  | .bl _ => some true
  | .int _ | .non | .str _ | .tup _ | .lst _ | .arr _ => some false
  | _ => none
def isStr : D → Option Bool
  | .str _ => some true
  | .int _ | .non | .bl _ | .tup _ | .lst _ | .arr _ => some false
  | _ => none
def isTuple : D → Option Bool
  | .tup _ => some true
  | .int _ | .non | .bl _ | .str _ | .lst _ | .arr _ => some false
  | _ => none
def isList : D → Option Bool
  | .lst _ | .arr _ => some true
  | .int _ | .non | .bl _ | .str _ | .tup _ => some false
  | _ => none
theorem isiK_int : IsiK "int" isInt := fun d b h => by
  cases d <;> cases h <;> exact ⟨_, rfl, by decide +kernel⟩
theorem isiK_bool : IsiK "bool" isBool := fun d b h => by
  cases d <;> cases h <;> exact ⟨_, rfl, by decide +kernel⟩
theorem isiK_str : IsiK "str" isStr := fun d b h => by
  cases d <;> cases h <;> exact ⟨_, rfl, by decide +kernel⟩
theorem isiK_tuple : IsiK "tuple" isTuple := fun d b h => by
  cases d <;> cases h <;> exact ⟨_, rfl, by decide +kernel⟩
theorem isiK_list : IsiK "list" isList := fun d b h => by
  cases d <;> cases h <;> exact ⟨_, rfl, by decide +kernel⟩
theorem bt_bool : bootBuiltins "bool" = some (.type "bool") := by decide +kernel
theorem bt_str : bootBuiltins "str" = some (.type "str") := by decide +kernel
theorem bt_isinstance : bootBuiltins "isinstance" = some (.builtin "isinstance") := by decide +kernel
theorem DH.tyX {M : Im} {w : Wd} {H : Hp} {d : D} {v : V} {t : String} (hc : ∀ a o, w.C a = some o → H a = some o) (h : DH M w H d v) (e : tyD d = some t) : TyX M.K H v (.type t) := by
  cases h with
  | lst h1 h2 => cases e; exact .base (.lst h1)
  | dv h n =>
    cases h with
    | non => cases e; exact .base .non
    | bl b => cases e; exact .base (.bl b)
    | int b => cases e; exact .base (.int b)
    | str b => cases e; exact .base (.str b)
    | tup a b =>
      cases e
      rcases SqT.mono hc a with (q | ⟨o, q⟩) | ⟨o, its, m, q1, q2, _⟩
      · exact .base (.tup q)
      · exact .fTuple q
      · exact .kTuple q1 q2
    | lst a b => exact absurd rfl (n _)
    | loc _ => cases e
    | fn _ => cases e
    | arr a =>
      cases e
      rcases SqL.mono hc a with (q | ⟨o, q⟩) | ⟨o, its, m, q1, q2, _⟩
      · exact .base (.lst q)
      · exact .base (.frz q)
      · exact .kList q1 q2
def eIsi (f : D → Option Bool) (a : ME) : ME := fun env g => (a env g).bind fun x g1 => match f (deref g1 x) with
  | some b => .ok (.bl b) g1
  | none => .bad
section
variable {M : Im} {W : XW} {X : Cx} {k n i : Nat} {a b e : Expr} {es : List Expr} {ma mb : ME} {ml : ML} {pos p p2 apos cpos : Pos} {x y xT : Str} {T : String} {f : D → Option Bool}
theorem se_isi (g : GX M k X) (hf : IsiK T f) (hg : Gl X "isinstance") (hm : M.mg "isinstance" = none) (hgT : Gl X xT) (hmT : M.mg xT = none) (hv : bootBuiltins xT = some (.type T)) (hn : xT ≠ "__name__") (hdT : (xT == ("__debug__" : Str)) = false) (ha : SE M W X a ma)
    (he : starEach [a, .Name xT p2] X.env = (false, eval a X.env) :: starEach [.Name xT p2] X.env) :
    SE M W X (.Call (.Name "isinstance" p) [a, .Name xT p2] [] pos) (eIsi f ma) := by
  obtain ⟨t, a1, a2⟩ := ha
  have hT : PE X (.Name xT p2) (tC (.ty T)) := pe_bltn hgT (by rw [g.mg]; exact hmT) hv rfl hn hdT
  refine ⟨_, pe_callB call_isi hg (by rw [g.mg]; exact hm) bt_isinstance (pa_cons a1 (pa_cons hT pa_nil rfl) he) (by decide) (by decide) he rfl, fun w fr env G σ H Q r h => ?_⟩
  refine a2 w fr env G σ H _ r ((Post.bind h).imp fun d w1 G1 H1 l1 r1 h1 v dv => ?_)
  have dh := DH.of r1 dv
  cases q : f (deref G1 d) with
  | none => rw [q] at h1; exact h1.elim
  | some bb =>
    rw [q] at h1
    obtain ⟨t', e1, e2⟩ := hf _ _ q
    have ty := dh.tyX r1.cold e1
    rw [← g.K] at ty
    exact ⟨v, .ty T, .type t', .type T, bb, rfl, .ty T, ty, kit_ty e2, Post.here h1 r1 _ (.bl _)⟩
/-! ### l.count(x) -/
def rCountD (K : PySem.W.Frag) : V → List V → Hp → VK → Prop := fun x xs H Q => ∃ (a : Addr) (y : V) (d : PyData) (ds : List PyData), x = V.ref a ∧ xs = [y] ∧ Dp K H (V.ref a) (.list ds) ∧ Dp K H y d ∧
  SeqAt.shaped (.list ds) = true ∧ SeqAt.shaped d = true ∧ Q (.int ((ds.countP fun z => PyData.eqv z d : Nat))) H
theorem mt_countD (hu : X.A.units + 65 < cLine) : MtR X "list.count" (rCountD X.K) := by
  intro pins s σ H x xs v us Q I rx rxs h
  obtain ⟨a, y, d, ds, rfl, rfl, hl, hy, sl, sd, q⟩ := h
  cases rx
  cases rxs with
  | cons ry rt =>
    rename_i uy ut
    cases rt
    obtain ⟨bs, r1⟩ := Dp.reads I d y uy hy ry
    have hxs : PyData.canLayAll0 ds = true := SeqAt.canLay_of_shaped sl
    have hroom : X.A.units + 1 + min (PyData.depthAll ds) d.depth < cLine := room_in_shaped sd hu
    cases hl with
    | lst hs ha =>
      obtain ⟨its, rv, ⟨⟨cls, dd, data, sls⟩, n, ho, hc, hdn, hdt⟩, hlen⟩ := I.list hs
      simp only at hc hdt
      subst hc hdt
      obtain ⟨as, h4⟩ := Dp.readsAll I ds _ its ha rv
      have hmap : its.map (SeqAt.readOf s.heap) = ds := SeqAt.readsAll_map ds its as hxs h4
      refine call_meets PySem.F.slot_list_count ⟨_, ho, rfl⟩ PySem.F.entry_list_count (PySem.F.args_list_count_2 _ _)
        (SeqAt.list_countAt a its.toArray n dd sls uy (fun u => PyData.eqv (SeqAt.readOf s.heap u) d)) ⟨ho, SeqAt.items_eqAt (vs := its.toArray) (show ReadsAll s.heap its.toArray.toList ds as from h4) r1 hxs (SeqAt.canLay_of_shaped sd) hroom, ?_⟩
      refine ⟨.int _, H, I.tok _, ⟨_, rfl⟩, ?_⟩
      have : (List.countP (fun u => PyData.eqv (SeqAt.readOf s.heap u) d) its.toArray.toList) = ds.countP fun z => PyData.eqv z d := by
        rw [← hmap, List.countP_map]; rfl
      rw [this]; exact q
theorem countP_eqD {xs : List D} {y : D} {n m : Nat} (hx : okDs xs n = true) (hy : okD y m = true) : (toPs xs).countP (fun z => PyData.eqv z (toP y)) = xs.countP fun z => eqD z y := by
  induction xs with
  | nil => rfl
  | cons x xs ih =>
    have hx : okD x n = true ∧ okDs xs n = true := by simpa [okDs] using hx
    simp only [toPs, List.countP_cons, ih hx.2, eqv_eqD x y n m hx.1 hy]
def eCount (a b : ME) : ME := fun env g => (a env g).bind fun x g1 => match deref g1 x with
  | .lst _ => (b env g1).bind fun y g2 => match deref g2 x with
    | .lst xs => guardR (okDs xs 63 && okD y 64) (.int (xs.countP fun z => eqD z y)) g2
    | _ => .bad
  | _ => .bad
theorem se_count (g : GX M k X) (ha : SE M W X a ma) (hb : SE M W X b mb) (hs : starEach [b] X.env = (false, eval b X.env) :: starEach [] X.env) (hbase : attributeBase a "count" X.env (eval a X.env) = eval a X.env) (hline : (apos.endLine == cpos.line) = true)
    (hfew : ((backTo cpos (starEach [b] X.env)).all (fun x => !x.1) && (backToKw cpos (keywordEach [] X.env)).all (fun x => x.1.isSome) && decide ([b].length + ([] : List Keyword).length + (if ([] : List Keyword).isEmpty then 0 else 1) < 30)) = true) :
    SE M W X (.Call (.Attribute a "count" apos) [b] [] cpos) (eCount ma mb) := by
  obtain ⟨t, a1, a2⟩ := ha
  obtain ⟨u, b1, b2⟩ := hb
  refine ⟨_, pe_bm PySem.F.plainAttrs_list PySem.F.slot_list_count PySem.F.type_list_count (mt_countD g.u65) a1 (pa_cons b1 pa_nil hs) hbase hfew hline hs rfl, fun w fr env G σ H Q r h => ?_⟩
  refine a2 w fr env G σ H _ r ((Post.bind h).imp fun d w1 G1 H1 l1 r1 h1 v dv => ?_)
  have dh := DH.of r1 dv
  generalize hq : deref G1 d = d' at *
  cases d' <;> try exact h1.elim
  rename_i xs0
  obtain ⟨q, vs, rfl, hs0, hd0⟩ := dh.list
  refine ⟨.inl ⟨rfl, vs, .inl (.inl hs0)⟩, ?_⟩
  refine b2 w1 fr env G1 σ H1 _ r1 ((Post.bind h1).imp fun y w2 G2 H2 l2 r2 h2 vy dy => ?_)
  have dh2 := DH.of r2 (dv.up l2)
  generalize hq2 : deref G2 d = d2 at *
  cases d2 <;> try exact h2.elim
  rename_i xs
  obtain ⟨q', us, e, hs1, hd1⟩ := dh2.list
  cases e
  obtain ⟨hb', h2⟩ := guard_post (α := D) h2
  have hb' : okDs xs 63 = true ∧ okD y 64 = true := by simpa using hb'
  refine ⟨q, vy, toP y, toPs xs, rfl, rfl, ?_, ?_, ?_, okD_shaped hb'.2, ?_⟩
  · have : Dp M.K H2 (.ref q) (toP (.lst xs)) := DH.dp r2.cold (n := 64) (.lst hs1 hd1) (by simpa only [okD] using hb'.1)
    rw [g.K]; simpa only [toP] using this
  · rw [g.K]; exact dy.dp r2.cold _ _ _ hb'.2
  · have := okD_shaped (d := .lst xs) (by simpa only [okD] using hb'.1)
    simpa only [toP] using this
  · rw [countP_eqD hb'.1 hb'.2]
    exact Post.here h2 r2 _ (.int _)
/-! ### xs[::-1] -/
def eRev (a : ME) : ME := fun env g => (a env g).bind fun x g1 => match deref g1 x with
  | .lst xs => .ok (.lst xs.reverse) g1
  | _ => .bad
theorem DVs.reverse {w : Wd} {ds : List D} {vs : List V} (h : DVs M w ds vs) : DVs M w ds.reverse vs.reverse := by
  induction ds generalizing vs with
  | nil => cases h; exact .nil
  | cons d ds ih =>
    cases h with
    | cons a b => rw [List.reverse_cons, List.reverse_cons]; exact (ih b).append (.cons a .nil)
theorem se_rev (g : GX M k X) (ha : SE M W X a ma) {kk : Nat} {p1 p3 : Pos} : SE M W X (.Subscript a (.Slice none none (some (.UnaryOp .USub (.Constant (.int 1) kk p1) p2)) p3) pos) (eRev ma) := by
  obtain ⟨t, a1, a2⟩ := ha
  refine ⟨_, pe_revL a1, fun w fr env G σ H Q r h => ?_⟩
  refine a2 w fr env G σ H _ r ((Post.bind h).imp fun d w1 G1 H1 l1 r1 h1 v dv => ?_)
  have dh := DH.of r1 dv
  generalize hq : deref G1 d = d' at *
  cases d' <;> try exact h1.elim
  obtain ⟨q, vs, rfl, hs0, hd0⟩ := dh.list
  exact ⟨q, vs, rfl, .inl (.inl hs0), fun p hp => post_lst r1 hd0.reverse h1 hp⟩
/-! ### an own list is written at a place -/
def sOwnSet (i : Nat) (a b : ME) : MS := fun env g => (a env g).bindS fun d g1 => match env[i]? with
  | some (.own _) => (b env g1).bindS fun y g2 => match env[i]?, y with
    | some (.own xs), .int z => match ixN xs.length z with
      | some j => .nx (env.set i (.own (xs.set j d))) g2
      | none => .bad
    | _, _ => .bad
  | _ => .bad
theorem ss_ownSet (g : GX M k X) (hN : X.N[i]? = some x) (hv : Vis X.env.scope x) (hdb : (x == ("__debug__" : Str)) = false) (hcd : (x == ("__classdict__" : Str)) = false) (ha : SE M W X a ma) (hb : SE M W X b mb)
    (hag : ∀ v, assign (.Subscript (.Name x p) b p2) X.env v = (do
      let ov ← holding [v] (eval (.Name x p) X.env)
      let iv ← holding [v, ov] (eval b X.env)
      standAt p2
      holding [v, ov, iv] (setItem ov iv v)
      release [v, ov, iv] []))
    (hs : swapsWithSole [.Subscript (.Name x p) b p2] a pos.line X.env = pure false) (hw : swappedStores [.Subscript (.Name x p) b p2] a X.env = pure none) (h1 : (assignEach [.Subscript (.Name x p) b p2] X.env).map (·.2) = [assign (.Subscript (.Name x p) b p2) X.env]) :
    SS M W X (.Assign [.Subscript (.Name x p) b p2] a pos) (sOwnSet i ma mb) := by
  obtain ⟨t, a1, a2⟩ := ha
  obtain ⟨v, c1, c2⟩ := hb
  refine ⟨_, ps_asg a1 (pg_sub (pe_var (pos := p) hN hv hdb hcd) c1 set_list hag) hs hw h1, fun w fr env G σ H D r h => ?_⟩
  refine a2 w fr env G σ H _ r ((PostS.bind h).imp fun d w1 G1 H1 l1 r1 h1 vd dd => ?_)
  cases q : env[i]? with
  | none => rw [q] at h1; exact h1.elim
  | some s =>
    rw [q] at h1
    cases s with
    | un => exact h1.elim
    | val d => exact h1.elim
    | own xs =>
      obtain ⟨l, vs, e1, e2, e3, _⟩ := r1.getOwn q
      refine ⟨_, e1, ?_⟩
      refine c2 w1 fr env G1 σ H1 _ r1 ((PostS.bind h1).imp fun y w2 G2 H2 l2 r2 h2 vy dy => ?_)
      cases dy <;> try exact h2.elim
      rename_i z
      simp only at h2
      obtain ⟨l', vs', f1, f2, f3, f4⟩ := r2.getOwn q
      rw [e1] at f1; cases f1
      cases e4 : ixN xs.length z with
      | none => rw [e4] at h2; exact h2.elim
      | some jj =>
        rw [e4] at h2
        refine ⟨l, vs', z, jj, rfl, rfl, f2, by rw [← f3.length]; exact e4, ?_⟩
        exact h2 w2 σ _ (Wd.Le.refl w2) (f4 _ _ (f3.set (dd.up l2) jj))
/-! ### [x, y][c].append(e), x and y own lists -/
def sPickApp (i j : Nat) (c e : ME) : MS := fun env g => match env[i]?, env[j]? with
  | some (.own _), some (.own _) => (c env g).bindS fun z g1 => match z with
    | .int 0 => sOwnApp i e env g1
    | .int 1 => sOwnApp j e env g1
    | _ => .bad
  | _, _ => .bad
theorem ss_pickApp (g : GX M k X) {c : Expr} {mc : ME} {j : Nat} {q1 q2 q3 q4 : Pos} (hN : X.N[i]? = some x) (hv : Vis X.env.scope x) (hdb : (x == ("__debug__" : Str)) = false) (hcd : (x == ("__classdict__" : Str)) = false)
    (hN' : X.N[j]? = some y) (hv' : Vis X.env.scope y) (hdb' : (y == ("__debug__" : Str)) = false) (hcd' : (y == ("__classdict__" : Str)) = false) (hc : SE M W X c mc) (ha : SE M W X a ma) (hpl : PlainIx c)
    (hst : starEach [a] X.env = [(false, eval a X.env)]) (hline : (apos.endLine == cpos.line) = true) (hbase : attributeBase (.Subscript (.List [.Name x q1, .Name y q2] q3) c q4) "append" X.env (eval (.Subscript (.List [.Name x q1, .Name y q2] q3) c q4) X.env) = eval (.Subscript (.List [.Name x q1, .Name y q2] q3) c q4) X.env) :
    SS M W X (.Expr (.Call (.Attribute (.Subscript (.List [.Name x q1, .Name y q2] q3) c q4) "append" apos) [a] [] cpos) pos) (sPickApp i j mc ma) := by
  obtain ⟨t, a1, a2⟩ := ha
  obtain ⟨u, c1, c2⟩ := hc
  have hs' : starEach (a :: []) X.env = (false, eval a X.env) :: starEach [] X.env := hst
  have hl : PE X (.List [.Name x q1, .Name y q2] q3) _ := pe_lst (pa_cons (pe_var (pos := q1) hN hv hdb hcd) (pa_cons (pe_var (pos := q2) hN' hv' hdb' hcd') pa_nil rfl) rfl)
  refine ⟨_, ps_expr (pe_bm PySem.F.plainAttrs_list PySem.F.slot_list_append PySem.F.type_list_append mt_append (pe_ix ix_list hl c1 hpl) (pa_cons a1 pa_nil hs') hbase (by rw [hst]; rfl) hline hs' rfl) rfl, fun w fr env G σ H D r h => ?_⟩
  unfold sPickApp at h
  cases q : env[i]? with
  | none => rw [q] at h; exact h.elim
  | some s =>
  cases q' : env[j]? with
  | none => rw [q, q'] at h; cases s <;> exact h.elim
  | some s' =>
  rw [q, q'] at h
  cases s with
  | un => exact h.elim
  | val d => exact h.elim
  | own xs =>
  cases s' with
  | un => exact h.elim
  | val d => exact h.elim
  | own ys =>
  obtain ⟨l, vs, h1, h2, h3, _⟩ := r.getOwn q
  obtain ⟨l', vs', h1', h2', h3', _⟩ := r.getOwn q'
  refine ⟨_, h1, _, h1', (by show 2 ≤ sizeLine; decide), fun p hp => ?_⟩
  obtain ⟨lw, r0⟩ := r.newCold (o := .lst [.ref l, .ref l']) hp
  refine c2 _ fr env G σ _ _ r0 ((PostS.bind (PostS.up h lw)).imp fun z w1 G1 H1 l1 r1 h4 vz dz => ?_)
  have hcold : H1 p = some (.lst [.ref l, .ref l']) := r1.cold _ _ (l1.c _ _ upd_same)
  have fin : ∀ (m : Nat) (zs : List GL.D) (lm : Addr), env[m]? = some (.own zs) → σ[m]? = some (some (.ref lm)) → PostS M W fr w1 D (sOwnApp m ma env G1) →
      tyV X.K "list" (.ref lm) H1 ∧ t σ H1 fun x H2 => rAppend (.ref lm) [x] H2 fun _ H3 => D.nx σ H3 := fun m zs lm hm hσ h5 => by
    obtain ⟨lz, vz', g1, g2, g3, _⟩ := r1.getOwn hm
    rw [hσ] at g1; cases g1
    refine ⟨.inl ⟨rfl, vz', .inl (.inl g2)⟩, ?_⟩
    unfold sOwnApp at h5
    rw [hm] at h5
    refine a2 w1 fr env G1 σ H1 _ r1 ((PostS.bind h5).imp fun d w2 G2 H2 l2 r2 h6 vd dd => ?_)
    by_cases hz : zs.length < LIM
    · rw [if_pos hz] at h6
      obtain ⟨ll, vs2, e1, e2, e3, e4⟩ := r2.getOwn hm
      rw [hσ] at e1; cases e1
      refine ⟨lm, vs2, vd, rfl, rfl, e2, by rw [← e3.length]; exact lim_lt hz, ?_⟩
      exact h6 w2 σ _ (Wd.Le.refl w2) (e4 _ _ (e3.append (.cons dd .nil)))
    · rw [if_neg hz] at h6; exact h6.elim
  cases dz <;> try exact h4.elim
  rename_i zi
  by_cases z0 : zi = 0
  · subst z0
    exact ⟨p, _, 0, .ref l, rfl, rfl, .inl (.inl hcold), rfl, fin i xs l q h1 h4⟩
  by_cases z1 : zi = 1
  · subst z1
    exact ⟨p, _, 1, .ref l', rfl, rfl, .inl (.inl hcold), rfl, fin j ys l' q' h1' h4⟩
  · exfalso
    have : (match GL.D.int zi with | .int 0 => sOwnApp i ma env G1 | .int 1 => sOwnApp j ma env G1 | _ => SR.bad) = SR.bad := by
      split
      · rename_i e; exact absurd (GL.D.int.inj e) z0
      · rename_i e; exact absurd (GL.D.int.inj e) z1
      · rfl
    have h4 : PostS M W fr w1 D (match GL.D.int zi with | .int 0 => sOwnApp i ma env G1 | .int 1 => sOwnApp j ma env G1 | _ => SR.bad) := h4
    rw [this] at h4
    exact h4
end
/-! ### wrappers -/
section
variable {c : Cn} {W : XW} {N : List Str} {sc : Scope} {fnf : Str → Bool} {X : Cx} {a b e : Expr} {ma mb mc : ME} {pos p p2 p3 apos cpos : Pos} {x y xT : Str} {i j : Nat} {T : String} {f : D → Option Bool}
theorem w_isi (o : OkX c N sc fnf X) (hf : IsiK T f) (hv : bootBuiltins xT = some (.type T)) (h : chkG sc "isinstance" = true) (hm : c.M.mg "isinstance" = none) (hT : chkG sc xT = true) (hmT : c.M.mg xT = none) (ha : SE c.M W X a ma)
    (he : starEach [a, .Name xT p2] X.env = (false, eval a X.env) :: starEach [.Name xT p2] X.env) : SE c.M W X (.Call (.Name "isinstance" p) [a, .Name xT p2] [] pos) (eIsi f ma) :=
  se_isi o.g hf (chkG_gl o h).1 hm (chkG_gl o hT).1 hmT hv (chkG_gl o hT).2.2 (chkG_gl o hT).2.1 ha he
theorem w_count (o : OkX c N sc fnf X) (ha : SE c.M W X a ma) (hb : SE c.M W X b mb) (hs : starEach [b] X.env = (false, eval b X.env) :: starEach [] X.env) (hbase : attributeBase a "count" X.env (eval a X.env) = eval a X.env) (hline : (apos.endLine == cpos.line) = true)
    (hfew : ((backTo cpos (starEach [b] X.env)).all (fun x => !x.1) && (backToKw cpos (keywordEach [] X.env)).all (fun x => x.1.isSome) && decide ([b].length + ([] : List Keyword).length + (if ([] : List Keyword).isEmpty then 0 else 1) < 30)) = true) :
    SE c.M W X (.Call (.Attribute a "count" apos) [b] [] cpos) (eCount ma mb) := se_count o.g ha hb hs hbase hline hfew
theorem w_rev (o : OkX c N sc fnf X) (ha : SE c.M W X a ma) {kk : Nat} {p1 : Pos} : SE c.M W X (.Subscript a (.Slice none none (some (.UnaryOp .USub (.Constant (.int 1) kk p1) p2)) p3) pos) (eRev ma) := se_rev o.g ha
theorem w_ownSet (o : OkX c N sc fnf X) (i : Nat) (h : chkV N sc i x = true) (ha : SE c.M W X a ma) (hb : SE c.M W X b mb)
    (hag : ∀ v, assign (.Subscript (.Name x p) b p2) X.env v = (do
      let ov ← holding [v] (eval (.Name x p) X.env)
      let iv ← holding [v, ov] (eval b X.env)
      standAt p2
      holding [v, ov, iv] (setItem ov iv v)
      release [v, ov, iv] []))
    (hs : swapsWithSole [.Subscript (.Name x p) b p2] a pos.line X.env = pure false) (hw : swappedStores [.Subscript (.Name x p) b p2] a X.env = pure none) (h1 : (assignEach [.Subscript (.Name x p) b p2] X.env).map (·.2) = [assign (.Subscript (.Name x p) b p2) X.env]) :
    SS c.M W X (.Assign [.Subscript (.Name x p) b p2] a pos) (sOwnSet i ma mb) :=
  ss_ownSet o.g (chkV_of o h).1 (chkV_of o h).2.1 (chkV_of o h).2.2.1 (chkV_of o h).2.2.2 ha hb hag hs hw h1
theorem w_pickApp (o : OkX c N sc fnf X) (i j : Nat) {q1 q2 q3 q4 : Pos} {cc : Expr} (h : chkV N sc i x = true) (h' : chkV N sc j y = true) (hc : SE c.M W X cc mc) (ha : SE c.M W X a ma) (hpl : PlainIx cc)
    (hst : starEach [a] X.env = [(false, eval a X.env)]) (hline : (apos.endLine == cpos.line) = true) (hbase : attributeBase (.Subscript (.List [.Name x q1, .Name y q2] q3) cc q4) "append" X.env (eval (.Subscript (.List [.Name x q1, .Name y q2] q3) cc q4) X.env) = eval (.Subscript (.List [.Name x q1, .Name y q2] q3) cc q4) X.env) :
    SS c.M W X (.Expr (.Call (.Attribute (.Subscript (.List [.Name x q1, .Name y q2] q3) cc q4) "append" apos) [a] [] cpos) pos) (sPickApp i j mc ma) :=
  ss_pickApp o.g (chkV_of o h).1 (chkV_of o h).2.1 (chkV_of o h).2.2.1 (chkV_of o h).2.2.2 (chkV_of o h').1 (chkV_of o h').2.1 (chkV_of o h').2.2.1 (chkV_of o h').2.2.2 hc ha hpl hst hline hbase
/-- x, y = [..], [..], both the frame's own -/
def sParOwn2 (i j : Nat) (l l' : ML) : MS := fun env g => (l env g).bindS fun xs g1 => (l' env g1).bindS fun ys g2 => if i < env.length ∧ j < env.length then .nx ((env.set i (.own xs)).set j (.own ys)) g2 else .bad
theorem RS.lessFr {M : Im} {w : Wd} {fr : List (Addr × HO)} {env : Env'} {G : Gh} {σ : L2.St} {H : Hp} {q : Addr × HO} (r : RS M w (q :: fr) env G σ H) : RS M w fr env G σ H := by
  obtain ⟨os, g, sl⟩ := r
  exact ⟨os, g.less ((List.Sublist.refl os).append (List.sublist_cons_self q fr)), sl⟩
theorem Post.lessFr {α : Type} {M : Im} {W : XW} {w : Wd} {fr : List (Addr × HO)} {env : Env'} {σ : L2.St} {q : Addr × HO} {P : α → Wd → Gh → Hp → Prop} {r : R α} (h : Post M W fr env σ w P r) : Post M W (q :: fr) env σ w P r := by
  cases r with
  | ok a G => exact fun w' H' l r' => h w' H' l r'.lessFr
  | exc x G => exact fun w' H' l r' => h w' H' l (r'.less (List.sublist_cons_self q fr))
  | bad => exact h
theorem RS.keepNew {M : Im} {w : Wd} {fr : List (Addr × HO)} {env : Env'} {G : Gh} {σ : L2.St} {H : Hp} {p : Addr} {o : HO} (r : RS M w fr env G σ H) (hp : H p = none) : RS M w ((p, o) :: fr) env G σ (upd H p o) := by
  obtain ⟨os, g, sl⟩ := r
  exact ⟨os, (g.newFr hp).perm List.perm_middle.symm, sl⟩
theorem RS.setOwnOf {M : Im} {w : Wd} {fr : List (Addr × HO)} {env : Env'} {G : Gh} {σ : L2.St} {H : Hp} {xs : List D} {vs : List V} {p : Addr} (j : Nat) (hl : j < env.length) (r : RS M w ((p, .lst vs) :: fr) env G σ H) (dvs : DVs M w xs vs) : RS M w fr (env.set j (.own xs)) G (σ.set j (some (.ref p))) H := by
  obtain ⟨os, g1, sl⟩ := r
  obtain ⟨o1, o2, q1, q2, q3⟩ := sl.setOwn (a := p) dvs j hl
  have g2 : RG M w ((p, .lst vs) :: (os ++ fr)) G H := g1.perm List.perm_middle
  have g3 : RG M w ((p, .lst vs) :: (o1 ++ fr)) G H := g2.less ((q1.append (List.Sublist.refl fr)).cons_cons _)
  exact ⟨o2, g3.perm (q2.append_right fr), q3⟩
theorem w_parOwn2 (o : OkX c N sc fnf X) (i j : Nat) {ml ml' : ML} {px py pt : Pos} {kt k2 pt2} (hi : chkT N sc fnf i x = true) (hj : chkT N sc fnf j y = true) (hij : i ≠ j) (hx : decide (sc.names.lookup x = some .local) = true) (hy : decide (sc.names.lookup y = some .local) = true)
    (ha : SF c.M W X a ml) (hl : SF c.M W X b ml') (hs1 : starEach [a, b] X.env = (false, eval a X.env) :: starEach [b] X.env) (hs2 : starEach [b] X.env = (false, eval b X.env) :: starEach [] X.env)
    (hk : isFnK sc.kind = true) (hw : decide (swapT sc [.Name x px, .Name y py] [a, b] = some (some [x, y])) = true) :
    SS c.M W X (.Assign [.Tuple [.Name x px, .Name y py] kt pt] (.Tuple [a, b] k2 pt2) pos) (sParOwn2 i j ml ml') := by
  obtain ⟨ta, a1, a2⟩ := ha
  obtain ⟨tb, b1, b2⟩ := hl
  refine ⟨_, ps_par o.g.calm o.g.nd (chkT_of o hi).1 (chkT_of o hj).1 hij (by rw [o.s]; exact of_decide_eq_true hx) (by rw [o.s]; exact of_decide_eq_true hy) (pa_cons a1 (pa_cons b1 pa_nil hs2) hs1) (swap_eq o hk (of_decide_eq_true hw)) rfl, fun w fr env G σ H D r h => ?_⟩
  refine a2 w fr env G σ H _ r ((PostS.bind h).imp fun xs w1 G1 H1 l1 r1 h1 vs p dvs hz hp => ?_)
  have r1' := r1.keepNew (o := .lst vs) hp
  refine b2 w1 _ env G1 σ _ _ r1' ((Post.lessFr (PostS.bind h1)).imp fun ys w2 G2 H2 l2 r2 h2 us q dvs2 hz2 hq => ?_)
  by_cases hlt : i < env.length ∧ j < env.length
  · rw [if_pos hlt] at h2
    refine ⟨_, _, rfl, h2 w2 _ _ (Wd.Le.refl w2) ?_⟩
    exact (RS.setOwnOf i hlt.1 r2 (dvs.up l2)).setOwnNew j (by simpa using hlt.2) dvs2 hq
  · rw [if_neg hlt] at h2; exact h2.elim
end
end GL
/-! GL part 17: list comprehensions of two clauses. -/
namespace GL
open PySem L2
open Classical in
noncomputable def compL2 (gd : Gd) (tg : MG) (t : MT) (it1 : MI) (tg1 : MG) (t1 : MT) (e : ME) (vs1 : List Nat) : List D → Env' → Gh → R (List D)
  | [], _, g => if gdOk gd g then .ok [] g else .bad
  | d :: ds, env, g => if gdOk gd g then (match tg d env with
      | none => .bad
      | some env1 => match t env1 g with
        | .ok k g1 => if k then (match it1 env1 g1 with
            | .ok p g2 => (match compL p.2 tg1 t1 e p.1 (blkE env1 vs1) g2 with
              | .ok ys g3 => (match compL2 gd tg t it1 tg1 t1 e vs1 ds env g3 with
                | .ok zs g4 => .ok (ys ++ zs) g4
                | _ => .bad)
              | _ => .bad)
            | _ => .bad) else compL2 gd tg t it1 tg1 t1 e vs1 ds env g1
        | _ => .bad) else .bad
noncomputable def lComp2 (it : MI) (tg : MG) (t : MT) (it1 : MI) (tg1 : MG) (t1 : MT) (e : ME) (vs vs1 : List Nat) : ML := fun env g => (it env g).bind fun p g1 => match compL2 p.2 tg t it1 tg1 t1 e vs1 p.1 (blkE env vs) g1 with
  | .ok ys g2 => if ys.length ≤ LIM then .ok ys g2 else .bad
  | _ => .bad
def iOf (M : Im) (W : XW) (m : MI) : TI := fun σ H Q => ∃ w fr env G, RS M w fr env G σ H ∧ Post M W fr env σ w (fun p w' G' H' => ∀ J, ItOk M w' p.2 J p.1 → gdOk p.2 G' → Q J H') (m env G)
section
variable {M : Im} {W : XW} {X : Cx} {k : Nat}
theorem SI.pi {tg e : Expr} {m : MI} (h : SI M W X tg e m) : PI X tg e (iOf M W m) := by
  obtain ⟨t, h1, h2⟩ := h
  exact ⟨fun pins s σ H Q I ⟨w, fr, env, G, r, p⟩ => h1.run pins s σ H Q I (h2 w fr env G σ H Q r p)⟩
end
theorem SlR.wipeO {M : Im} {w : Wd} {os : List (Addr × HO)} {env : Env'} {σ : L2.St} (h : SlR M w os env σ) : ∀ vs : List Nat, ∃ os', os'.Sublist os ∧ SlR M w os' (wipeE env vs) (L2.wipe σ vs)
  | [] => ⟨os, .refl _, h⟩
  | v :: vs => by
    obtain ⟨o1, h1, h2⟩ := SlR.wipeO h vs
    obtain ⟨o2, h3, h4⟩ := SlR.wipe1 (o := none) v h2
    exact ⟨o2, h3.trans h1, h4⟩
theorem RS.wipe {M : Im} {w : Wd} {fr : List (Addr × HO)} {env : Env'} {G : Gh} {σ : L2.St} {H : Hp} (r : RS M w fr env G σ H) (vs : List Nat) : RS M w fr (wipeE env vs) G (L2.wipe σ vs) H := by
  obtain ⟨os, g, sl⟩ := r
  obtain ⟨o1, h1, h2⟩ := sl.wipeO vs
  exact ⟨o1, g.less (h1.append (.refl _)), h2⟩
section
variable {M : Im} {W : XW} {X : Cx} {k : Nat} {elt tg iter tg1 iter1 : Expr} {ifs ifs1 : List Expr} {scope : Scope} {own : List (Str × Nat)} {pos : Pos} {wi : TI} {mi mi1 : MI} {mg mg1 : MG} {mt mt1 : MT} {me : ME} {ts ts1 : List Nat} {vs vs1 : List Nat}
theorem compL_gd {gd : Gd} {tg : MG} {t : MT} {e : ME} {ds : List D} {env : Env'} {g g' : Gh} {ys : List D} (h : compL gd tg t e ds env g = .ok ys g') : gdOk gd g := by
  by_cases q : gdOk gd g
  · exact q
  · exfalso
    cases ds with
    | nil => unfold compL at h; rw [if_neg q] at h; cases h
    | cons d r => unfold compL at h; rw [if_neg q] at h; cases h
theorem compL2_gd {gd : Gd} {tg tg1 : MG} {t t1 : MT} {it1 : MI} {e : ME} {ds : List D} {env : Env'} {g g' : Gh} {ys : List D} (h : compL2 gd tg t it1 tg1 t1 e vs1 ds env g = .ok ys g') : gdOk gd g := by
  by_cases q : gdOk gd g
  · exact q
  · exfalso
    cases ds with
    | nil => unfold compL2 at h; rw [if_neg q] at h; cases h
    | cons d r => unfold compL2 at h; rw [if_neg q] at h; cases h
/-- the second clause's loop within the first's: acc stands in D -/
theorem lc2_inner (hts1 : ∀ i ∈ ts1, i ∈ vs1) {J1 : It} {gd1 : Gd} {ds1 : List GL.D} {env1 : Env'} {σ2 : L2.St} {Gf : Gh} {w0 : Wd} {fr : List (Addr × HO)} {D : Addr} {Nx : Hp → Prop} {ys accD : List GL.D} {accV : List V} {G : Gh} {H : Hp}
    (jo : ItOk M w0 gd1 J1 ds1) (sl : SlR M w0 [] (blkE env1 vs1) (L2.wipe σ2 vs1)) (g0 : RG M w0 ((D, .lst accV) :: fr) G H) (da : DVs M w0 accD accV) (e0 : compL gd1 mg1 mt1 me ds1 (blkE env1 vs1) G = .ok ys Gf) (hlen : accD.length + ys.length ≤ LIM)
    (hN : ∀ w' H' us, w0.Le w' → RG M w' ((D, .lst us) :: fr) Gf H' → DVs M w' (accD ++ ys) us → Nx H') :
    ∃ W1 : Nat → Nat → Hp → Prop, (∃ m, W1 0 m H) ∧ ∀ j k H, W1 j k H →
      (J1.stop j H ∧ Nx H) ∨ (J1.go j H ∧ ∃ Nx1 : Hp → Prop, (∀ H', Nx1 H' → ∃ k', k' < k ∧ W1 (j + 1) k' H') ∧ ∀ x H', J1.yld j H x H' → gOf M ts1 mg1 x (L2.wipe σ2 vs1) H' fun σ3 H5 => L2.wipe σ3 vs1 = L2.wipe σ2 vs1 ∧ ttOf M W0 mt1 σ3 H5 fun b H6 =>
        if b = true then tOf M W0 me σ3 H6 fun y H7 => ∃ acc, H7 D = some (.lst acc) ∧ acc.length < sizeLine ∧ Nx1 (upd H7 D (.lst (acc ++ [y]))) else Nx1 H6) := by
  let St : Nat → Hp → Prop := fun i H' => ∃ w' G' aD aV ys', w0.Le w' ∧ RG M w' ((D, .lst aV) :: fr) G' H' ∧ DVs M w' aD aV ∧ compL gd1 mg1 mt1 me (ds1.drop i) (blkE env1 vs1) G' = .ok ys' Gf ∧ aD ++ ys' = accD ++ ys
  refine ⟨fun i m H' => St i H' ∧ m = ds1.length - i ∧ i ≤ ds1.length, ⟨_, ⟨w0, G, accD, accV, ys, Wd.Le.refl w0, g0, da, e0, rfl⟩, rfl, Nat.zero_le _⟩, ?_⟩
  rintro i m H' ⟨⟨w', G', aD, aV, ys', l', g', da', e', ey⟩, rfl, hi⟩
  have rb : RS M w' ((D, .lst aV) :: fr) (blkE env1 vs1) G' (L2.wipe σ2 vs1) H' := ⟨[], g', sl.up l'⟩
  have hgd : gdOk gd1 G' := compL_gd e'
  by_cases hlt : i < ds1.length
  · rw [List.drop_eq_getElem_cons hlt] at e'
    unfold compL at e'
    rw [if_pos hgd] at e'
    cases e1 : mg1 ds1[i] (blkE env1 vs1) with
    | none => rw [e1] at e'; cases e'
    | some env2 =>
      rw [e1] at e'
      simp only at e'
      cases e2 : mt1 env2 G' with
      | bad => rw [e2] at e'; cases e'
      | exc x g => rw [e2] at e'; cases e'
      | ok kk g2 =>
        rw [e2] at e'
        simp only at e'
        refine .inr ⟨jo.go i w' _ _ G' _ H' l' rb hgd hlt, St (i + 1), fun H2 st => ⟨ds1.length - (i + 1), by omega, st, rfl, hlt⟩, fun x H2 hy => ?_⟩
        obtain ⟨w2, l2, r2, dv⟩ := jo.yld i w' _ _ G' _ H' x H2 ds1[i] l' rb hgd (List.getElem?_eq_getElem hlt) hy
        refine ⟨w2, (D, .lst aV) :: fr, blkE env1 vs1, G', ds1[i], r2, dv, ?_⟩
        rw [e1]
        intro w3 σ3 H3 l3 r3 ag3
        have ag : L2.wipe σ3 vs1 = L2.wipe σ2 vs1 := by
          rw [wipe_ag vs1 (ag3.mono hts1)]
          exact wipe_ag vs1 ⟨by rw [wipe_length], fun j hj => by
            have : ∀ (l : List Nat), j ∉ l → (L2.wipe σ2 l)[j]? = σ2[j]? := fun l => wipe_out
            exact this vs1 hj⟩
        refine ⟨ag, w3, _, env2, G', r3, ?_⟩
        rw [e2]
        intro w4 H4 l4 r4
        show if kk = true then _ else _
        cases kk with
        | false =>
          simp only [Bool.false_eq_true, if_false] at e' ⊢
          obtain ⟨oo, g4, s4⟩ := r4
          exact ⟨w4, g2, aD, aV, ys', ((l'.trans l2).trans l3).trans l4, (g4.less (List.sublist_append_right _ _)), da'.up ((l2.trans l3).trans l4), e', ey⟩
        | true =>
          simp only [if_true] at e' ⊢
          cases e3 : me env2 g2 with
          | bad => rw [e3] at e'; cases e'
          | exc x g => rw [e3] at e'; cases e'
          | ok y g3 =>
            rw [e3] at e'
            simp only at e'
            cases e4 : compL gd1 mg1 mt1 me (ds1.drop (i + 1)) (blkE env1 vs1) g3 with
            | bad => rw [e4] at e'; cases e'
            | exc x g => rw [e4] at e'; cases e'
            | ok ys2 g4 =>
              rw [e4] at e'
              have q : R.ok (y :: ys2) g4 = R.ok ys' Gf := e'
              injection q with q1 q2
              subst q1 q2
              refine ⟨w4, _, env2, g2, r4, ?_⟩
              rw [e3]
              intro w5 H5 l5 r5 vy dy
              obtain ⟨oo, g5, s5⟩ := r5
              have g5' := g5.less (List.sublist_append_right oo ((D, HO.lst aV) :: fr))
              have lall := (((l'.trans l2).trans l3).trans l4).trans l5
              have lda := ((l2.trans l3).trans l4).trans l5
              refine ⟨aV, g5'.frm (D, .lst aV) List.mem_cons_self, ?_, ?_⟩
              · rw [← (da'.length)]
                have : (aD ++ y :: ys2).length = (accD ++ ys).length := by rw [ey]
                simp only [List.length_append, List.length_cons] at this
                exact lim_lt (by omega)
              · refine ⟨w5, g3, aD ++ [y], aV ++ [vy], ys2, lall, ?_, (da'.up lda).append (.cons dy .nil), e4, by rw [← ey]; simp⟩
                exact RG.setFr (f1 := []) g5'
  · have ei : i = ds1.length := by omega
    subst ei
    rw [List.drop_length] at e'
    unfold compL at e'
    rw [if_pos hgd] at e'
    have q : R.ok ([] : List GL.D) G' = R.ok ys' Gf := e'
    injection q with q1 q2
    subst q1 q2
    rw [List.append_nil] at ey
    exact .inl ⟨jo.stop w' _ _ G' _ H' l' rb hgd, hN w' H' aV l' g' (by rw [← ey]; exact da')⟩
theorem lc2_read (i2 : ∀ w fr env G σ H Q, RS M w fr env G σ H → Post M W fr env σ w (fun p w' G' H' => ∀ J, ItOk M w' p.2 J p.1 → gdOk p.2 G' → Q J H') (mi env G) → wi σ H Q) (hts : ∀ i ∈ ts, i ∈ vs) (hts1 : ∀ i ∈ ts1, i ∈ vs1)
    {w : Wd} {fr : List (Addr × HO)} {env : Env'} {G : Gh} {σ : L2.St} {H : Hp} {Q : VK} (r : RS M w fr env G σ H) (h : Post M W fr env σ w (PF' M Q) (lComp2 mi mg mt mi1 mg1 mt1 me vs vs1 env G)) :
    tLc2 wi (gOf M ts mg) (ttOf M W0 mt) (iOf M W0 mi1) (gOf M ts1 mg1) (ttOf M W0 mt1) (tOf M W0 me) vs vs1 σ H Q := by
  refine i2 w fr env G σ H _ r ((Post.bind h).imp fun p w1 G1 H1 l1 r1 h1 J jo gok => ?_)
  obtain ⟨ds, gd⟩ := p
  simp only at h1 jo gok
  cases e : compL2 gd mg mt mi1 mg1 mt1 me vs1 ds (blkE env vs) G1 with
  | bad => rw [e] at h1; exact h1.elim
  | exc x g => rw [e] at h1; exact h1.elim
  | ok ys Gf =>
    rw [e] at h1
    by_cases hlen : ys.length ≤ LIM
    · simp only [hlen, if_true] at h1
      intro D hD
      obtain ⟨os, g1, sl⟩ := r1
      have sb : SlR M w1 [] (blkE env vs) (L2.wipe σ vs) := SlR.wipe sl.hide vs
      let St : Nat → Hp → Prop := fun i H' => ∃ w' G' accD accV ys', w1.Le w' ∧ RG M w' ((D, .lst accV) :: (os ++ fr)) G' H' ∧ DVs M w' accD accV ∧ compL2 gd mg mt mi1 mg1 mt1 me vs1 (ds.drop i) (blkE env vs) G' = .ok ys' Gf ∧ accD ++ ys' = ys
      refine ⟨fun i m H' => St i H' ∧ m = ds.length - i ∧ i ≤ ds.length, ⟨_, ⟨w1, G1, [], [], ys, Wd.Le.refl w1, g1.newFr hD, .nil, e, rfl⟩, rfl, Nat.zero_le _⟩, ?_⟩
      rintro i m H' ⟨⟨w', G', accD, accV, ys', l', g', da, e', ey⟩, rfl, hi⟩
      have rb : RS M w' ((D, .lst accV) :: (os ++ fr)) (blkE env vs) G' (L2.wipe σ vs) H' := ⟨[], g', sb.up l'⟩
      have hgd : gdOk gd G' := compL2_gd e'
      by_cases hlt : i < ds.length
      · rw [List.drop_eq_getElem_cons hlt] at e'
        unfold compL2 at e'
        rw [if_pos hgd] at e'
        cases e1 : mg ds[i] (blkE env vs) with
        | none => rw [e1] at e'; cases e'
        | some env1 =>
          rw [e1] at e'
          simp only at e'
          cases e2 : mt env1 G' with
          | bad => rw [e2] at e'; cases e'
          | exc x g => rw [e2] at e'; cases e'
          | ok kk g2 =>
            rw [e2] at e'
            simp only at e'
            refine .inr ⟨jo.go i w' _ _ G' _ H' l' rb hgd hlt, St (i + 1), fun H2 st => ⟨ds.length - (i + 1), by omega, st, rfl, hlt⟩, fun x H2 hy => ?_⟩
            obtain ⟨w2, l2, r2, dv⟩ := jo.yld i w' _ _ G' _ H' x H2 ds[i] l' rb hgd (List.getElem?_eq_getElem hlt) hy
            refine ⟨w2, (D, .lst accV) :: (os ++ fr), blkE env vs, G', ds[i], r2, dv, ?_⟩
            rw [e1]
            intro w3 σ3 H3 l3 r3 ag3
            have ag : L2.wipe σ3 vs = L2.wipe σ vs := by
              rw [wipe_ag vs (ag3.mono hts)]
              exact wipe_ag vs ⟨by rw [wipe_length], fun j hj => by
                have : ∀ (l : List Nat), j ∉ l → (L2.wipe σ l)[j]? = σ[j]? := fun l => wipe_out
                exact this vs hj⟩
            refine ⟨ag, w3, _, env1, G', r3, ?_⟩
            rw [e2]
            intro w4 H4 l4 r4
            show if kk = true then _ else _
            cases kk with
            | false =>
              simp only [Bool.false_eq_true, if_false] at e' ⊢
              obtain ⟨oo, g4, s4⟩ := r4
              exact ⟨w4, g2, accD, accV, ys', ((l'.trans l2).trans l3).trans l4, (g4.less (List.sublist_append_right _ _)), da.up ((l2.trans l3).trans l4), e', ey⟩
            | true =>
              simp only [if_true] at e' ⊢
              cases e3 : mi1 env1 g2 with
              | bad => rw [e3] at e'; cases e'
              | exc x g => rw [e3] at e'; cases e'
              | ok p3 g3 =>
                rw [e3] at e'
                simp only at e'
                cases e5 : compL p3.2 mg1 mt1 me p3.1 (blkE env1 vs1) g3 with
                | bad => rw [e5] at e'; cases e'
                | exc x g => rw [e5] at e'; cases e'
                | ok ys1 g4 =>
                  rw [e5] at e'
                  simp only at e'
                  cases e4 : compL2 gd mg mt mi1 mg1 mt1 me vs1 (ds.drop (i + 1)) (blkE env vs) g4 with
                  | bad => rw [e4] at e'; cases e'
                  | exc x g => rw [e4] at e'; cases e'
                  | ok ys2 g5 =>
                    rw [e4] at e'
                    have q : R.ok (ys1 ++ ys2) g5 = R.ok ys' Gf := e'
                    injection q with q1 q2
                    subst q1 q2
                    refine ⟨w4, _, env1, g2, r4, ?_⟩
                    rw [e3]
                    intro w5 H5 l5 r5 J1 jo1 gok1
                    obtain ⟨oo, g6, s6⟩ := r5
                    have g6' := g6.less (List.sublist_append_right oo ((D, HO.lst accV) :: (os ++ fr)))
                    have lall := (((l'.trans l2).trans l3).trans l4).trans l5
                    have lda := ((l2.trans l3).trans l4).trans l5
                    refine lc2_inner hts1 jo1 (SlR.wipe s6.hide vs1) g6' (da.up lda) e5 ?_ fun w7 H7 us l7 g7 d7 => ?_
                    · have : (accD ++ (ys1 ++ ys2)).length = ys.length := by rw [ey]
                      simp only [List.length_append] at this
                      omega
                    · exact ⟨w7, g4, accD ++ ys1, us, ys2, lall.trans l7, g7, d7, e4, by rw [List.append_assoc]; exact ey⟩
      · have ei : i = ds.length := by omega
        subst ei
        rw [List.drop_length] at e'
        unfold compL2 at e'
        rw [if_pos hgd] at e'
        have q : R.ok ([] : List GL.D) G' = R.ok ys' Gf := e'
        injection q with q1 q2
        subst q1 q2
        rw [List.append_nil] at ey
        subst ey
        refine .inl ⟨jo.stop w' _ _ G' _ H' l' rb hgd, ?_⟩
        have hfr := g'.frm (D, .lst accV) List.mem_cons_self
        have ro : RS M w' fr env G' σ (outA H' D) := ⟨os, g'.out, sl.up l'⟩
        have := h1 w' _ l' ro accV D da (by rw [← da.length]; exact lim_le hlen) outA_same
        rw [outA_upd hfr] at this
        exact this
    · simp only [hlen, if_false] at h1; exact h1.elim
end
section
variable {c : Cn} {W : XW} {N : List Str} {sc : Scope} {fnf : Str → Bool} {X : Cx} {elt tg iter tg1 iter1 : Expr} {ifs ifs1 : List Expr} {scope : Scope} {pos : Pos} {mi mi1 : MI} {mg mg1 : MG} {mt mt1 : MT} {me : ME} {ts ts1 : List Nat}
/-- [elt for tg in iter if .. for tg1 in iter1 if ..] -/
theorem w_comp2 (o : OkX c N sc fnf X) (own : List (Str × Nat)) (vs1 : List Nat) (hb : blkC N sc scope own = true) (hi : SI c.M W X tg iter mi)
    (hg : ∀ X', OkX c N (relS scope sc) (fun x => scope.names.lookup x == some .cell) X' → SG c.M X' tg ts mg) (ht : ∀ X', OkX c N (relS scope sc) (fun x => scope.names.lookup x == some .cell) X' → STs c.M W0 X' ifs mt)
    (hi1 : ∀ X', OkX c N (relS scope sc) (fun x => scope.names.lookup x == some .cell) X' → SI c.M W0 X' tg1 iter1 mi1)
    (hg1 : ∀ X', OkX c N (relS scope sc) (fun x => scope.names.lookup x == some .cell) X' → SG c.M X' tg1 ts1 mg1) (ht1 : ∀ X', OkX c N (relS scope sc) (fun x => scope.names.lookup x == some .cell) X' → STs c.M W0 X' ifs1 mt1)
    (he : ∀ X', OkX c N (relS scope sc) (fun x => scope.names.lookup x == some .cell) X' → SE c.M W0 X' elt me) (hts : (ts.all fun i => (own.map (·.2)).contains i) = true) (hts1 : (ts1.all fun i => vs1.contains i) = true) (hv : (vs1.all fun i => (own.map (·.2)).contains i) = true)
    (hs : ∀ x, foldedSetIterable iter X.env x = pure x) (hs1 : ∀ env x, foldedSetIterable iter1 env x = pure x) :
    SF c.M W X (.ListComp elt [⟨tg, iter, ifs, 0⟩, ⟨tg1, iter1, ifs1, 0⟩] scope pos) (lComp2 mi mg mt mi1 mg1 mt1 me (own.map (·.2)) vs1) := by
  obtain ⟨wi, i1, i2⟩ := hi
  refine ⟨_, pe_lc2 (vs1 := vs1) o.g.calm o.g.nd i1 (by rw [o.n, o.s]; exact blkOk_by hb) (fun i hi => List.contains_iff_mem.mp (List.all_eq_true.mp hv i hi)) (fun s H C cl fp => (hg _ (o.blk s H C cl fp)).pg) (fun s H C cl fp => ht _ (o.blk s H C cl fp)) (fun s H C cl fp => (hi1 _ (o.blk s H C cl fp)).pi)
    (fun s H C cl fp => (hg1 _ (o.blk s H C cl fp)).pg) (fun s H C cl fp => ht1 _ (o.blk s H C cl fp)) (fun s H C cl fp => (he _ (o.blk s H C cl fp)).pe) hs hs1, fun w fr env G σ H Q r h => ?_⟩
  exact lc2_read i2 (fun i hi => List.contains_iff_mem.mp (List.all_eq_true.mp hts i hi)) (fun i hi => List.contains_iff_mem.mp (List.all_eq_true.mp hts1 i hi)) r h
end
end GL
/-! GL part 18: defs with defaults. -/
namespace GL
open PySem L2 PyProof.Rows
section
variable {M : Im} {f : Addr} {fd : FuncData} {x qual : Str} {params : Arguments} {body : List Stmt} {scope : Scope} {ps ks : List Str} {n : Nat} {pm : List Nat} {dvs : List V} {kws : List (Str × V)}
/-- all parameters are handed in -/
theorem bnd_ofK (F : FunD M.K x qual params body scope [] kws f fd)
    (h : ∀ (kV doc pm' : Value) (an : Option Addr) (cdv ct : Value) (us ws : List Value), us.length = n → ws.length = ks.length → bindArgs (PySem.W.fnOf x qual params body scope .none kV doc pm' an cdv ct) ⟨us, ks.zip ws⟩ = pure (ps.zip (permL pm (us ++ ws ++ [])))) : Bnd M fd ps n ks pm [] := by
  obtain ⟨oc, od, dV, kV, doc, pm', an, cdv, ct, osl, rfl, lk, hcd, hD, _⟩ := F.ex
  rcases hD with ⟨_, rfl⟩ | ⟨q, _⟩
  · exact Bnd.plain fun us ws h1 h2 => h kV doc pm' an cdv ct us ws h1 h2
  · exact absurd rfl q
/-- keyword-only parameters ms are left out -/
theorem bnd_kw (F : FunD M.K x qual params body scope [] kws f fd) (ms : List (Str × V)) {dd : List D} (hms : ∀ q ∈ ms, q ∈ kws) (hk : kws ≠ []) (hdd : ∀ w, DVs M w dd (ms.map (·.2)))
    (h : ∀ (D : Addr) (doc pm' : Value) (an : Option Addr) (cdv ct : Value) (us ws mv : List Value), us.length = n → ws.length = ks.length → mv.length = ms.length →
      KwChain D ((ms.map (·.1)).zip mv) (bindArgs (PySem.W.fnOf x qual params body scope .none (.ref D) doc pm' an cdv ct) ⟨us, ks.zip ws⟩) (ps.zip (permL pm (us ++ ws ++ mv)))) : Bnd M fd ps n ks pm dd := by
  obtain ⟨oc, od, dV, kV, doc, pm', an, cdv, ct, osl, rfl, lk, hcd, hD, hK⟩ := F.ex
  rcases hD with ⟨_, rfl⟩ | ⟨q, _⟩
  · rcases hK with e | ⟨D, rfl, hq⟩
    · exact absurd e hk
    · obtain ⟨mv, hl, rk, hks⟩ := kwd_vals (ms := ms) fun q hm => hq q (hms q hm)
      exact ⟨ms.map (·.2), mv, rk, hdd, fun s us ws X l1 l2 => BindsTo.of_looks fun M' => KwChain.looks X hks (h D doc pm' an cdv ct us ws mv l1 l2 hl)⟩
  · exact absurd rfl q
/-- parameters with defaults: the defaults behind the first j fill up -/
theorem bnd_pos (F : FunD M.K x qual params body scope dvs kws f fd) (j : Nat) {dd : List D} (hd : dvs ≠ []) (hdd : ∀ w, DVs M w dd (dvs.drop j))
    (h : ∀ (T : Addr) (kV doc pm' : Value) (an : Option Addr) (cdv ct : Value) (us ws its : List Value), us.length = n → ws.length = ks.length → its.length = dvs.length →
      ∃ k, bindArgs (PySem.W.fnOf x qual params body scope (.ref T) kV doc pm' an cdv ct) ⟨us, ks.zip ws⟩ = seqItems? (.ref T) >>= k ∧ k (some its.toArray) = pure (ps.zip (permL pm (us ++ ws ++ its.drop j)))) : Bnd M fd ps n ks pm dd := by
  obtain ⟨oc, od, dV, kV, doc, pm', an, cdv, ct, osl, rfl, lk, hcd, hD, hK⟩ := F.ex
  rcases hD with ⟨e, _⟩ | ⟨_, T, o, its, m, rfl, lT, oT, rT⟩
  · exact absurd e hd
  · refine ⟨dvs.drop j, its.drop j, rT.drop j, hdd, fun s us ws X l1 l2 => BindsTo.of_looks fun M' => ?_⟩
    obtain ⟨k, e1, e2⟩ := h T kV doc pm' an cdv ct us ws its l1 l2 rT.length.symm
    rw [e1]
    exact looks_items X lT oT (.of_pure e2)
end
section
variable {K : PySem.W.Frag} {x qual : Str} {st : Stmt} {f D T : Addr} {oc : Value} {od an od' : Option Addr} {osl sl : Array (Option Value)} {kV doc pm cdv ct : Value} {kws : List (Str × V)} {dvs : List V} {its : Array Value} {n : Nat}
theorem funD_mkK (l : K.lookup f = some ⟨oc, od, .func (PySem.W.fnOf x qual (defArgs st) (defBody st) (defScope st) .none (.ref D) doc pm an cdv ct), osl⟩)
    (c : PySem.W.codeIn K cdv qual = true) (k : PySem.W.keepIn K (.ref f) = true) (hk : ∀ q ∈ kws, ∃ u, PySem.W.nsIn K D q.1 = some (some u) ∧ RelV q.2 u) : FunD K x qual (defArgs st) (defBody st) (defScope st) [] kws f (PySem.W.fnOf x qual (defArgs st) (defBody st) (defScope st) .none (.ref D) doc pm an cdv ct) :=
  ⟨⟨oc, od, .none, .ref D, doc, pm, an, cdv, ct, osl, rfl, l, c, .inl ⟨rfl, rfl⟩, .inr ⟨D, rfl, hk⟩⟩, k⟩
theorem funD_mkP (l : K.lookup f = some ⟨oc, od, .func (PySem.W.fnOf x qual (defArgs st) (defBody st) (defScope st) (.ref T) kV doc pm an cdv ct), osl⟩)
    (c : PySem.W.codeIn K cdv qual = true) (k : PySem.W.keepIn K (.ref f) = true) (lT : K.lookup T = some ⟨.type "tuple", od', .seq its n, sl⟩) (hd : dvs ≠ []) (hv : Vals dvs its.toList) : FunD K x qual (defArgs st) (defBody st) (defScope st) dvs [] f (PySem.W.fnOf x qual (defArgs st) (defBody st) (defScope st) (.ref T) kV doc pm an cdv ct) :=
  ⟨⟨oc, od, .ref T, kV, doc, pm, an, cdv, ct, osl, rfl, l, c, .inr ⟨hd, T, _, its.toList, n, rfl, lT, by simp, hv⟩, .inl rfl⟩, k⟩
end
/-! ### how these meanings reckon -/
section
variable {env : Env'} {g : Gh} {a b c e : ME} {l l' : ML} {s : MS} {i j : Nat} {xs ys : List D}
@[simp] theorem eIsi_ap {f : D → Option Bool} : eIsi f a env g = (a env g).bind fun x g1 => match f (deref g1 x) with
  | some b => .ok (.bl b) g1
  | none => .bad := rfl
@[simp] theorem eCount_ap : eCount a b env g = (a env g).bind fun x g1 => match deref g1 x with
  | .lst _ => (b env g1).bind fun y g2 => match deref g2 x with
    | .lst xs => guardR (okDs xs 63 && okD y 64) (.int (xs.countP fun z => eqD z y)) g2
    | _ => .bad
  | _ => .bad := rfl
@[simp] theorem eRev_ap : eRev a env g = (a env g).bind fun x g1 => match deref g1 x with
  | .lst xs => .ok (.lst xs.reverse) g1
  | _ => .bad := rfl
@[simp] theorem sOwnSet_ap : sOwnSet i a b env g = (a env g).bindS fun d g1 => match env[i]? with
  | some (.own _) => (b env g1).bindS fun y g2 => match env[i]?, y with
    | some (.own xs), .int z => match ixN xs.length z with
      | some j => .nx (env.set i (.own (xs.set j d))) g2
      | none => .bad
    | _, _ => .bad
  | _ => .bad := rfl
@[simp] theorem sPickApp_ap : sPickApp i j c e env g = match env[i]?, env[j]? with
  | some (.own _), some (.own _) => (c env g).bindS fun z g1 => match z with
    | .int 0 => sOwnApp i e env g1
    | .int 1 => sOwnApp j e env g1
    | _ => .bad
  | _, _ => .bad := rfl
@[simp] theorem sParOwn2_ap : sParOwn2 i j l l' env g = (l env g).bindS fun xs g1 => (l' env g1).bindS fun ys g2 => if i < env.length ∧ j < env.length then .nx ((env.set i (.own xs)).set j (.own ys)) g2 else .bad := rfl
end
end GL
/-! GL part 15: zip of two lists or tuples, strict or not. -/
namespace GL
open PySem L2 PyProof.Rows
namespace Z
/-- an iterator over a tuple (true) or a list -/
def IsIt (h : Heap) : Bool → Addr → Addr → Nat → Prop
  | true, it, l, i => h.IsTupleIter it l i
  | false, it, l, i => h.IsListIter it l i
def IsSq (h : Heap) : Bool → Addr → Array Value → Prop
  | true, l, xs => h.IsTuple l xs
  | false, l, xs => h.IsList l xs
section
variable {prog : Program} {w : World} {A : Around} {E : Value → Shared → Prop} {s : Shared}
theorem IsIt.at {h h' : Heap} {b : Bool} {it l : Addr} {i : Nat} (x : IsIt h b it l i) (e : ∀ o, h.get? it = some o → h'.get? it = some o) : IsIt h' b it l i := by
  cases b with
  | true => exact Heap.IsTupleIter.at x e
  | false => exact Heap.IsListIter.at x e
theorem IsSq.at {h h' : Heap} {b : Bool} {l : Addr} {xs : Array Value} (x : IsSq h b l xs) (e : ∀ o, h.get? l = some o → h'.get? l = some o) : IsSq h' b l xs := by
  cases b with
  | true => exact Heap.IsTuple.at x e
  | false => exact Heap.IsList.at x e
theorem IsIt.live {h : Heap} {b : Bool} {it l : Addr} {i : Nat} (x : IsIt h b it l i) : ∃ o, h.get? it = some o ∧ ∀ v, o.data ≠ .cell v := by
  cases b with
  | true => obtain ⟨o, e, _, d⟩ := x; exact ⟨o, e, fun v q => by rw [d] at q; cases q⟩
  | false => obtain ⟨o, e, _, d⟩ := x; exact ⟨o, e, fun v q => by rw [d] at q; cases q⟩
theorem nx_item {b : Bool} {it l : Addr} {i : Nat} {items : Array Value} {x : Value} {Q : Value → Shared → Prop} (hit : IsIt s.heap b it l i) (hl : IsSq s.heap b l items) (hx : items[i]? = some x)
    (hQ : ∀ h', IsIt h' b it l (i + 1) → Heap.SameBut it s.heap h' → Q x { s with heap := h' }) : wpAny (model prog w) A (Builtin.SmallTypes.nextOf (.ref it)) Q E s := by
  cases b with
  | true => exact wpAny_nextOf_tuple_item hit hl hx hQ
  | false => exact wpAny_nextOf_list_item hit hl hx hQ
theorem nx_end {b : Bool} {it l : Addr} {i : Nat} {items : Array Value} {Q : Value → Shared → Prop} (hh : A.handled = none) (hit : IsIt s.heap b it l i) (hl : IsSq s.heap b l items) (hx : items[i]? = none)
    (hE : ∀ h' e, Heap.ExtBut it s.heap h' → (∃ o, h'.get? e = some o ∧ o.cls = .type "StopIteration") → E (.ref e) { s with heap := h' }) : wpAny (model prog w) A (Builtin.SmallTypes.nextOf (.ref it)) Q E s := by
  cases b with
  | true => exact wpAny_nextOf_tuple_end hh hit hl hx hE
  | false => exact wpAny_nextOf_list_end hh hit hl hx hE
theorem noe_item {b : Bool} {it l : Addr} {i : Nat} {items : Array Value} {x : Value} {Q : Option Value → Shared → Prop} (hit : IsIt s.heap b it l i) (hl : IsSq s.heap b l items) (hx : items[i]? = some x)
    (hQ : ∀ h', IsIt h' b it l (i + 1) → Heap.SameBut it s.heap h' → Q (some x) { s with heap := h' }) : wpAny (model prog w) A (Builtin.SmallTypes.nextOrEnd (.ref it)) Q E s := by
  unfold Builtin.SmallTypes.nextOrEnd
  exact wpAny_bind (wpAny_attempt (nx_item hit hl hx fun h' a c => wpAny_pure (hQ h' a c)))
theorem noe_end {b : Bool} {it l : Addr} {i : Nat} {items : Array Value} {Q : Option Value → Shared → Prop} (hh : A.handled = none) (hit : IsIt s.heap b it l i) (hl : IsSq s.heap b l items) (hx : items[i]? = none)
    (hQ : ∀ h', Heap.ExtBut it s.heap h' → Q none { s with heap := h' }) : wpAny (model prog w) A (Builtin.SmallTypes.nextOrEnd (.ref it)) Q E s := by
  unfold Builtin.SmallTypes.nextOrEnd
  refine wpAny_bind (wpAny_attempt (nx_end hh hit hl hx fun h' e x he => ?_))
  obtain ⟨o, ho, hc⟩ := he
  refine wpAny_bind (wpAny_isInstance (T := "StopIteration") (b := true) ⟨o, ho, hc⟩ isSubtype_stop ?_)
  exact wpAny_pure (hQ _ x)
theorem stop_raise {α : Type} {Q : α → Shared → Prop} (hh : A.handled = none) (hE : ∀ h' e, (∀ c o, s.heap.get? c = some o → h'.get? c = some o) → (∃ o, h'.get? e = some o ∧ o.cls = .type "StopIteration") → E (.ref e) { s with heap := h' }) : wpAny (model prog w) A (Builtin.SmallTypes.stopIteration : Sem α) Q E s := by
  unfold Builtin.SmallTypes.stopIteration
  refine wpAny_bind ?_
  simp only [newExc, newTuple]
  refine wpAny_bind (wpAny_newObj_type ?_ (by size_fits))
  refine wpAny_bind (m := firstArgMember _ _) (wpAny_of_eq (a := Value.none) (by first | rfl | (simp only [firstArgMember]; rfl)) ?_)
  refine wpAny_newObj_type ?_ (by size_fits)
  simp only [raiseNew]
  refine wpAny_bind (wpAny_handled ?_)
  first | rw [show A.in1.handled = none from hh] | rw [hh]
  refine wpAny_bind (wpAny_pure (wpAny_throw ?_))
  exact hE _ _ (fun c o e => Heap.get?_push_of_some _ (Heap.get?_push_of_some _ e)) ⟨_, Heap.get?_push_size _ rfl, rfl⟩

abbrev IsZs (h : Heap) (z TI TO : Addr) (f0 : Value) : Prop :=
  h.get? z = some { cls := .type "zip", dict := none, data := .fields #[f0, .bool false, .bool true, .ref TI, .ref TO], slots := #[] }
theorem zs_item {b1 b2 : Bool} {z TI TO i1 i2 l1 l2 : Addr} {k1 k2 : Nat} {xs ys : Array Value} {x y a b : Value} {Q : Value → Shared → Prop} (D : ZipApart z TI TO i1 i2 l1 l2)
    (hz : IsZs s.heap z TI TO .none) (hTI : IsPair s.heap TI (.ref i1) (.ref i2)) (hTO : IsPair s.heap TO a b)
    (h1 : IsIt s.heap b1 i1 l1 k1) (h2 : IsIt s.heap b2 i2 l2 k2) (hl1 : IsSq s.heap b1 l1 xs) (hl2 : IsSq s.heap b2 l2 ys) (hx : xs[k1]? = some x) (hy : ys[k2]? = some y)
    (hQ : ∀ h', IsZs h' z TI TO (rawInt s.heap.objs.size) → IsPair h' TO x y → IsIt h' b1 i1 l1 (k1 + 1) → IsIt h' b2 i2 l2 (k2 + 1) → IsPair h' s.heap.objs.size x y → h'.objs.size = s.heap.objs.size + 1 →
      (∀ c o, c ≠ z → c ≠ TO → c ≠ i1 → c ≠ i2 → s.heap.get? c = some o → h'.get? c = some o) → Q (.ref s.heap.objs.size) { s with heap := h' }) :
    wpAny (model prog w) A (Builtin.«zip.__next__» ⟨[.ref z], []⟩) (fun fin s' => ∃ v, fin = .done (.ret v) ∧ Q v s') E s := by
  show wpAny _ _ (field (.ref z) 2 >>= _) _ _ _
  refine wpAny_bind (wpAny_field hz rfl (x := .bool true) rfl ?_)
  show wpAny _ _ (field (.ref z) 3 >>= _) _ _ _
  refine wpAny_bind (wpAny_field hz rfl (x := .ref TI) rfl ?_)
  refine wpAny_bind (wpAny_seqItems hTI rfl ?_)
  show wpAny _ _ (Builtin.SmallTypes.ownedTupleIsFree (.ref z) >>= _) _ _ _
  refine wpAny_bind ?_
  unfold Builtin.SmallTypes.ownedTupleIsFree
  refine wpAny_bind (wpAny_field hz rfl (x := .none) rfl (wpAny_pure ?_))
  simp only [if_true]
  refine wpAny_bind (wpAny_rule ?_)
  refine wpAny_bind (wpAny_field hz rfl (x := .ref TO) rfl ?_)
  refine wpAny_bind (wpAny_setField_rec hz (by simp) fun h₁ hz₁ hs₁ => ?_)
  replace hz₁ : IsZs h₁ z TI TO .ellipsis := hz₁
  refine wpAny_bind ?_
  simp only [List.zipIdx_cons, List.zipIdx_nil, List.forIn_cons, List.forIn_nil]
  refine wpAny_bind (wpAny_bind (wpAny_onRaise ?_))
  show wpAny _ _ (Builtin.SmallTypes.nextOrEnd (.ref i1)) _ _ _
  refine noe_item (h1.at fun o e => hs₁.extBut _ o D.i1z e) (hl1.at fun o e => hs₁.extBut _ o D.l1z e) hx fun h₂ h1₂ hs₂ => ?_
  have hTO₂ : IsPair h₂ TO a b := hs₂.extBut _ _ D.TOi1 (hs₁.extBut _ _ D.TOz hTO)
  refine wpAny_bind (wpAny_seqItems hTO₂ rfl ?_)
  refine wpAny_bind (wpAny_updateSeq_pair hTO₂ fun h₃ hTO₃ hs₃ => ?_)
  replace hTO₃ : IsPair h₃ TO x b := hTO₃
  refine wpAny_bind (wpAny_letGo (wpAny_pure ?_))
  refine wpAny_bind (wpAny_bind (wpAny_onRaise ?_))
  show wpAny _ _ (Builtin.SmallTypes.nextOrEnd (.ref i2)) _ _ _
  refine noe_item (h2.at fun o e => hs₃.extBut _ o D.TOi2.symm (hs₂.extBut _ o D.i12.symm (hs₁.extBut _ o D.i2z e)))
    (hl2.at fun o e => hs₃.extBut _ o D.l2TO (hs₂.extBut _ o D.l2i1 (hs₁.extBut _ o D.l2z e))) hy fun h₄ h2₄ hs₄ => ?_
  have hTO₄ : IsPair h₄ TO x b := hs₄.extBut _ _ D.TOi2 hTO₃
  refine wpAny_bind (wpAny_seqItems hTO₄ rfl ?_)
  refine wpAny_bind (wpAny_updateSeq_pair hTO₄ fun h₅ hTO₅ hs₅ => ?_)
  replace hTO₅ : IsPair h₅ TO x y := hTO₅
  refine wpAny_bind (wpAny_letGo (wpAny_pure (wpAny_pure ?_)))
  refine wpAny_bind (wpAny_seqItems hTO₅ rfl ?_)
  refine wpAny_bind (wpAny_newTuple ?_)
  have hsz : h₅.objs.size = s.heap.objs.size := by rw [hs₅.1, hs₄.1, hs₃.1, hs₂.1, hs₁.1]
  have hz₅ : IsZs h₅ z TI TO .ellipsis := hs₅.extBut _ _ D.TOz.symm (hs₄.extBut _ _ D.i2z.symm (hs₃.extBut _ _ D.TOz.symm (hs₂.extBut _ _ D.i1z.symm hz₁)))
  have hk₅ : ∀ c o, c ≠ z → c ≠ TO → c ≠ i1 → c ≠ i2 → s.heap.get? c = some o → h₅.get? c = some o := fun c o c1 c2 c3 c4 e =>
    hs₅.extBut _ _ c2 (hs₄.extBut _ _ c4 (hs₃.extBut _ _ c2 (hs₂.extBut _ _ c3 (hs₁.extBut _ _ c1 e))))
  have h1₅ : IsIt h₅ b1 i1 l1 (k1 + 1) := h1₂.at fun o e => hs₅.extBut _ o D.TOi1.symm (hs₄.extBut _ o D.i12 (hs₃.extBut _ o D.TOi1.symm e))
  have h2₅ : IsIt h₅ b2 i2 l2 (k2 + 1) := h2₄.at fun o e => hs₅.extBut _ o D.TOi2.symm e
  have hzlt : z < h₅.objs.size := Heap.lt_size hz₅
  show wpAny _ _ (Builtin.SmallTypes.ownedTupleHandOut (.ref z) (.ref h₅.objs.size) >>= _) _ _ _
  refine wpAny_bind ?_
  unfold Builtin.SmallTypes.ownedTupleHandOut
  have hz₆ : IsZs (h₅.push { cls := .type "tuple", data := .seq #[x, y] }) z TI TO .ellipsis := Heap.get?_push_of_some _ hz₅
  refine wpAny_bind (wpAny_setField_rec hz₆ (by simp) fun h₇ hz₇ hs₇ => ?_)
  replace hz₇ : IsZs h₇ z TI TO (rawInt h₅.objs.size) := hz₇
  refine wpAny_setField_rec hz₇ (by simp) fun h₈ hz₈ hs₈ => ?_
  replace hz₈ : IsZs h₈ z TI TO (rawInt h₅.objs.size) := hz₈
  have up : ∀ c o, c ≠ z → h₅.get? c = some o → h₈.get? c = some o := fun c o c1 e => hs₈.extBut _ _ c1 (hs₇.extBut _ _ c1 (Heap.get?_push_of_some _ e))
  have hT₈ : IsPair h₈ h₅.objs.size x y := hs₈.extBut _ _ (Nat.ne_of_gt hzlt) (hs₇.extBut _ _ (Nat.ne_of_gt hzlt) (Heap.get?_push_size _ rfl))
  have hz8 : h₈.objs.size = h₅.objs.size + 1 := by rw [hs₈.1, hs₇.1, Heap.size_push]
  rw [hsz] at hz₈ hT₈ hz8
  refine wpAny_pure ⟨_, rfl, ?_⟩
  show Q (.ref h₅.objs.size) _
  rw [hsz]
  exact hQ h₈ hz₈ (up _ _ D.TOz hTO₅) (h1₅.at fun o e => up _ o D.i1z e) (h2₅.at fun o e => up _ o D.i2z e) hT₈ hz8 fun c o c1 c2 c3 c4 e => up c o c1 (hk₅ c o c1 c2 c3 c4 e)

theorem zs_end {b1 b2 : Bool} {z TI TO i1 i2 l1 l2 : Addr} {k1 k2 : Nat} {xs ys : Array Value} {a b : Value} {Q : Fin → Shared → Prop} (hh : A.handled = none) (D : ZipApart z TI TO i1 i2 l1 l2)
    (hz : IsZs s.heap z TI TO .none) (hTI : IsPair s.heap TI (.ref i1) (.ref i2)) (hTO : IsPair s.heap TO a b)
    (h1 : IsIt s.heap b1 i1 l1 k1) (h2 : IsIt s.heap b2 i2 l2 k2) (hl1 : IsSq s.heap b1 l1 xs) (hl2 : IsSq s.heap b2 l2 ys) (hx : xs[k1]? = none) (hy : ys[k2]? = none)
    (hE : ∀ h' e, (∀ c o, c ≠ z → c ≠ TO → c ≠ i1 → c ≠ i2 → s.heap.get? c = some o → h'.get? c = some o) → (∃ o, h'.get? e = some o ∧ o.cls = .type "StopIteration") → E (.ref e) { s with heap := h' }) :
    wpAny (model prog w) A (Builtin.«zip.__next__» ⟨[.ref z], []⟩) Q E s := by
  show wpAny _ _ (field (.ref z) 2 >>= _) _ _ _
  refine wpAny_bind (wpAny_field hz rfl (x := .bool true) rfl ?_)
  show wpAny _ _ (field (.ref z) 3 >>= _) _ _ _
  refine wpAny_bind (wpAny_field hz rfl (x := .ref TI) rfl ?_)
  refine wpAny_bind (wpAny_seqItems hTI rfl ?_)
  show wpAny _ _ (Builtin.SmallTypes.ownedTupleIsFree (.ref z) >>= _) _ _ _
  refine wpAny_bind ?_
  unfold Builtin.SmallTypes.ownedTupleIsFree
  refine wpAny_bind (wpAny_field hz rfl (x := .none) rfl (wpAny_pure ?_))
  simp only [if_true]
  refine wpAny_bind (wpAny_rule ?_)
  refine wpAny_bind (wpAny_field hz rfl (x := .ref TO) rfl ?_)
  refine wpAny_bind (wpAny_setField_rec hz (by simp) fun h₁ hz₁ hs₁ => ?_)
  replace hz₁ : IsZs h₁ z TI TO .ellipsis := hz₁
  refine wpAny_bind ?_
  simp only [List.zipIdx_cons, List.zipIdx_nil, List.forIn_cons, List.forIn_nil]
  refine wpAny_bind (wpAny_bind (wpAny_onRaise ?_))
  show wpAny _ _ (Builtin.SmallTypes.nextOrEnd (.ref i1)) _ _ _
  refine noe_end hh (h1.at fun o e => hs₁.extBut _ o D.i1z e) (hl1.at fun o e => hs₁.extBut _ o D.l1z e) hx fun h₂ hs₂ => ?_
  have hz₂ : IsZs h₂ z TI TO .ellipsis := hs₂ _ _ D.i1z.symm hz₁
  refine wpAny_bind (wpAny_setField_rec hz₂ (by simp) fun h₃ hz₃ hs₃ => ?_)
  refine wpAny_bind ?_
  wp_delta
  rw [if_neg (by decide)]
  simp only [List.drop_succ_cons, List.drop_zero, List.zipIdx_cons, List.zipIdx_nil, List.forIn_cons, List.forIn_nil]
  have k2 : ∀ o, s.heap.get? i2 = some o → h₃.get? i2 = some o := fun o e => hs₃.extBut _ o D.i2z (hs₂ _ o D.i12.symm (hs₁.extBut _ o D.i2z e))
  have kl2 : ∀ o, s.heap.get? l2 = some o → h₃.get? l2 = some o := fun o e => hs₃.extBut _ o D.l2z (hs₂ _ o D.l2i1 (hs₁.extBut _ o D.l2z e))
  refine wpAny_bind (wpAny_bind (wpAny_bind (noe_end hh (h2.at k2) (hl2.at kl2) hy fun h₄ hs₄ => ?_)))
  rw [if_neg (by simp)]
  refine wpAny_pure (wpAny_pure (wpAny_bind (wpAny_rule (stop_raise hh fun h' e hk he => hE h' e (fun c o c1 c2 c3 c4 q => hk _ _ (hs₄ _ _ c4 (hs₃.extBut _ _ c1 (hs₂ _ _ c3 (hs₁.extBut _ _ c1 q))))) he))))
theorem zs_pyNext_item {b1 b2 : Bool} {z TI TO i1 i2 l1 l2 : Addr} {k1 k2 : Nat} {xs ys : Array Value} {x y a b : Value} {Q : Option Value → Shared → Prop} (D : ZipApart z TI TO i1 i2 l1 l2)
    (hz : IsZs s.heap z TI TO .none) (hTI : IsPair s.heap TI (.ref i1) (.ref i2)) (hTO : IsPair s.heap TO a b)
    (h1 : IsIt s.heap b1 i1 l1 k1) (h2 : IsIt s.heap b2 i2 l2 k2) (hl1 : IsSq s.heap b1 l1 xs) (hl2 : IsSq s.heap b2 l2 ys) (hx : xs[k1]? = some x) (hy : ys[k2]? = some y)
    (hQ : ∀ h', IsZs h' z TI TO (rawInt s.heap.objs.size) → IsPair h' TO x y → IsIt h' b1 i1 l1 (k1 + 1) → IsIt h' b2 i2 l2 (k2 + 1) → IsPair h' s.heap.objs.size x y → h'.objs.size = s.heap.objs.size + 1 →
      (∀ c o, c ≠ z → c ≠ TO → c ≠ i1 → c ≠ i2 → s.heap.get? c = some o → h'.get? c = some o) → Q (some (.ref s.heap.objs.size)) { s with heap := h' }) :
    wpAny (model prog w) A (pyNext (.ref z)) Q E s := by
  have hT : s.TypeIs (.ref z) "zip" := ⟨_, hz, rfl⟩
  unfold pyNext
  exact wpAny_bind (wpAny_attempt (wpAny_callSpecial?_slot (name := Str.ofString "__next__") hT F.slot_zip_next
    (wpAny_call_entry F.slot_zip_next hT F.entry_zip_next
      (zs_item D hz hTI hTO h1 h2 hl1 hl2 hx hy fun h' a1 a2 a3 a4 a5 a6 a7 => wpAny_pure (hQ h' a1 a2 a3 a4 a5 a6 a7)) (F.args_zip_next_1 _))))
theorem zs_pyNext_end {b1 b2 : Bool} {z TI TO i1 i2 l1 l2 : Addr} {k1 k2 : Nat} {xs ys : Array Value} {a b : Value} {Q : Option Value → Shared → Prop} (hh : A.handled = none) (D : ZipApart z TI TO i1 i2 l1 l2)
    (hz : IsZs s.heap z TI TO .none) (hTI : IsPair s.heap TI (.ref i1) (.ref i2)) (hTO : IsPair s.heap TO a b)
    (h1 : IsIt s.heap b1 i1 l1 k1) (h2 : IsIt s.heap b2 i2 l2 k2) (hl1 : IsSq s.heap b1 l1 xs) (hl2 : IsSq s.heap b2 l2 ys) (hx : xs[k1]? = none) (hy : ys[k2]? = none)
    (hQ : ∀ h', (∀ c o, c ≠ z → c ≠ TO → c ≠ i1 → c ≠ i2 → s.heap.get? c = some o → h'.get? c = some o) → Q none { s with heap := h' }) : wpAny (model prog w) A (pyNext (.ref z)) Q E s := by
  have hT : s.TypeIs (.ref z) "zip" := ⟨_, hz, rfl⟩
  unfold pyNext
  refine wpAny_bind (wpAny_attempt (wpAny_callSpecial?_slot (name := Str.ofString "__next__") hT F.slot_zip_next
    (wpAny_call_entry F.slot_zip_next hT F.entry_zip_next (zs_end hh D hz hTI hTO h1 h2 hl1 hl2 hx hy fun h' e hk he => ?_) (F.args_zip_next_1 _))))
  obtain ⟨o, ho, hc⟩ := he
  refine wpAny_bind (wpAny_isInstance (T := "StopIteration") (b := true) ⟨o, ho, hc⟩ isSubtype_stop ?_)
  exact wpAny_pure (hQ _ hk)
theorem zs_letGo {elts : List Expr} {x1} {pos : Pos} {z TI TO T : Addr} {Q : Unit → Shared → Prop} (hz : IsZs s.heap z TI TO (rawInt T))
    (hQ : ∀ h', IsZs h' z TI TO .none → Heap.SameBut z s.heap h' → Q () { s with heap := h' }) :
    wpAny (model prog w) A (letOwnedTupleGo (.Tuple elts x1 pos) (.ref z) (.ref T)) Q E s := by
  unfold letOwnedTupleGo
  refine wpAny_bind (wpAny_load hz ?_)
  show wpAny _ _ (if (["enumerate", "zip", "dict_itemiterator", "dict_reverseitemiterator", "odict_iterator", "itertools.zip_longest", "itertools.pairwise"].contains "zip" &&
      (#[rawInt T, .bool false, .bool true, .ref TI, .ref TO] : Array Value)[0]? == some (rawInt T)) = true then _ else _) Q E s
  rw [if_pos (by simp)]
  refine wpAny_bind (wpAny_rule ?_)
  show wpAny _ _ (setField (.ref z) 0 .none) Q E s
  exact wpAny_setField_rec hz (by simp) fun h' hz' hs' => hQ h' hz' hs'
theorem zs_pyIter {z TI TO : Addr} {f0 : Value} {Q : Value → Shared → Prop} (hz : IsZs s.heap z TI TO f0) (h : Q (.ref z) s) : wpAny (model prog w) A (pyIter (.ref z)) Q E s := by
  have hT : s.TypeIs (.ref z) "zip" := ⟨_, hz, rfl⟩
  refine wpAny_pyIter_slot hT F.slot_zip_iter (wpAny_call_entry F.slot_zip_iter hT F.entry_zip_iter ?_ (F.args_zip_iter_1 _))
  show wpAny _ _ (ret (.ref z)) _ _ s
  exact wpAny_pure ⟨_, rfl, "zip", _, hT, F.slot_zip_next.lookup, h⟩
end
end Z
end GL
/-! GL part 15b: zip of two, strict, as a source of loops. -/
namespace GL
open PySem L2 PyProof.Rows
namespace Z
theorem typeCall_zip_s (a b c : Value) : checkTypeCall "zip" ⟨[a, b], [(Str.ofString "strict", c)]⟩ = pure () := by kernel_rfl
theorem newCall_zip_s (a b c : Value) : checkBuiltinCall "zip.__new__" ⟨[.type "zip", a, b], [(Str.ofString "strict", c)]⟩ = pure () := by kernel_rfl
theorem args_init_s (obj a b c : Value) : argsOk "object.__init__" ⟨[obj, a, b], [(Str.ofString "strict", c)]⟩ := by unfold argsOk; kernel_rfl
abbrev zS (h : Heap) (o1 o2 : Obj) : Heap := (gzO2 h o1 o2).push { cls := .type "zip", data := .fields #[.none, .bool false, .bool true, .ref ((h.push o1).push o2).objs.size, .ref (gzT2 h o1 o2).objs.size] }
theorem meets_zip_newS {v1 v2 : Value} {o1 o2 : Obj} {H1 H2 : Heap → Prop} (B1 : Begins v1 o1 H1) (B2 : Begins v2 o2 H2) :
    Meets (Builtin.«zip.__new__» ⟨[.type "zip", v1, v2], [(Str.ofString "strict", .bool true)]⟩) (fun _ R s => (H1 s.heap ∧ H2 s.heap) ∧
      R (.ok (.ret (.ref (gzO2 s.heap o1 o2).objs.size))) { s with heap := zS s.heap o1 o2 }) :=
  .of_wp fun prog w A R s h => by
    obtain ⟨hp, g, d, tk, os⟩ := s; obtain ⟨⟨h1, h2⟩, h⟩ := h
    have hsub := sub_zip
    have q1 : ∀ {A' : Around} {E : Value → Shared → Prop} {Q : Value → Shared → Prop}, Q (.ref hp.objs.size) ⟨(hp.push o1), g, d, tk, os⟩ → wpAny (model prog w) A' (pyIter v1) Q E ⟨hp, g, d, tk, os⟩ :=
      fun q => B1.iter prog w _ _ ⟨hp, g, d, tk, os⟩ _ (B1.keeps _ _ h1 fun b o' e => e) q
    have q2 : ∀ {A' : Around} {E : Value → Shared → Prop} {Q : Value → Shared → Prop}, Q (.ref (hp.push o1).objs.size) ⟨((hp.push o1).push o2), g, d, tk, os⟩ → wpAny (model prog w) A' (pyIter v2) Q E ⟨(hp.push o1), g, d, tk, os⟩ :=
      fun q => B2.iter prog w _ _ ⟨(hp.push o1), g, d, tk, os⟩ _ (B2.keeps _ _ h2 fun b o' e => (Heap.get?_push_of_some _ e)) q
    have e2 : (Str.ofString "strict" != ("strict" : Str)) = false := by decide +kernel
    wp_walk using q1, q2
    exact ⟨_, rfl, h⟩
section
variable {prog : Program} {w : World} {A : Around} {E : Value → Shared → Prop} {s : Shared}
theorem zip_beginsS {v1 v2 : Value} {o1 o2 : Obj} {H1 H2 : Heap → Prop} {Q : Value → Shared → Prop} (B1 : Begins v1 o1 H1) (B2 : Begins v2 o2 H2) (h1 : H1 s.heap) (h2 : H2 s.heap)
    (h : ∀ h', IsZs h' (s.heap.objs.size + 4) (s.heap.objs.size + 2) (s.heap.objs.size + 3) .none → IsTupOf2 h' (s.heap.objs.size + 2) (.ref s.heap.objs.size) (.ref (s.heap.objs.size + 1)) →
      IsTupOf2 h' (s.heap.objs.size + 3) .none .none → h'.get? s.heap.objs.size = some o1 → h'.get? (s.heap.objs.size + 1) = some o2 → h'.objs.size = s.heap.objs.size + 5 →
      (∀ c o, s.heap.get? c = some o → h'.get? c = some o) → Q (.ref (s.heap.objs.size + 4)) { s with heap := h' }) :
    wpAny (model prog w) A (call (.type "zip") [v1, v2] [(Str.ofString "strict", .bool true)]) Q E s := by
  refine callType_newKw F.called_zip (by decide) (typeCall_zip_s _ _ _) (newCall_zip_s _ _ _) (fun obj => args_init_s obj _ _ _) F.entry_zip_new
    (meets_zip_newS B1 B2) ⟨⟨h1, h2⟩, ?_⟩
  have z1 : (s.heap.push o1).objs.size = s.heap.objs.size + 1 := by rw [Heap.size_push]
  have z2 : ((s.heap.push o1).push o2).objs.size = s.heap.objs.size + 2 := by rw [Heap.size_push, z1]
  have zT : (gzT2 s.heap o1 o2).objs.size = s.heap.objs.size + 3 := by rw [Heap.size_push, z2]
  have zO : (gzO2 s.heap o1 o2).objs.size = s.heap.objs.size + 4 := by rw [Heap.size_push, zT]
  have zZ : (zS s.heap o1 o2).objs.size = s.heap.objs.size + 5 := by rw [Heap.size_push, zO]
  have gZ : (zS s.heap o1 o2).get? (gzO2 s.heap o1 o2).objs.size = some { cls := .type "zip", data := .fields #[.none, .bool false, .bool true, .ref ((s.heap.push o1).push o2).objs.size, .ref (gzT2 s.heap o1 o2).objs.size] } := Heap.get?_push_size _ rfl
  have gO : (zS s.heap o1 o2).get? (gzT2 s.heap o1 o2).objs.size = some { cls := .type "tuple", data := .seq #[.none, .none] } := Heap.get?_push_of_some _ (Heap.get?_push_size _ rfl)
  have gT : (zS s.heap o1 o2).get? ((s.heap.push o1).push o2).objs.size = some { cls := .type "tuple", data := .seq #[.ref s.heap.objs.size, .ref (s.heap.push o1).objs.size] } := Heap.get?_push_of_some _ (Heap.get?_push_of_some _ (Heap.get?_push_size _ rfl))
  have g1 : (zS s.heap o1 o2).get? s.heap.objs.size = some o1 := Heap.get?_push_of_some _ (Heap.get?_push_of_some _ (Heap.get?_push_of_some _ (Heap.get?_push_of_some _ (Heap.get?_push_size _ B1.free))))
  have g2 : (zS s.heap o1 o2).get? (s.heap.push o1).objs.size = some o2 := Heap.get?_push_of_some _ (Heap.get?_push_of_some _ (Heap.get?_push_of_some _ (Heap.get?_push_size _ B2.free)))
  rw [zO, zT, z2] at gZ
  rw [zT] at gO
  rw [z2, z1] at gT
  rw [z1] at g2
  show _ ∧ _
  rw [zO]
  exact ⟨⟨_, gZ, rfl⟩, h _ gZ gT gO g1 g2 zZ fun c o e => Heap.get?_push_of_some _ (Heap.get?_push_of_some _ (Heap.get?_push_of_some _ (Heap.get?_push_of_some _ (Heap.get?_push_of_some _ e))))⟩
end
/-- a tuple (true) or a list, by its items -/
def SqX (K : PySem.W.Frag) (H : Hp) : Bool → Addr → List V → Prop
  | true, a, xs => SqT K H a xs
  | false, a, xs => SqL K H a xs
def itObj : Bool → Addr → Obj
  | true, l => { cls := .type "tuple_iterator", data := .fields #[.ref l, .int 0 0] }
  | false, l => { cls := .type "list_iterator", data := .fields #[.ref l, .int 0 0] }
theorem begins_sq (b : Bool) (l : Addr) (items : Array Value) : Begins (.ref l) (itObj b l) fun h => IsSq h b l items := by
  cases b with
  | true => exact begins_tuple l items
  | false => exact begins_list l items
theorem isIt_obj {h : Heap} {b : Bool} {it l : Addr} (e : h.get? it = some (itObj b l)) : IsIt h b it l 0 := by
  cases b with
  | true => exact ⟨_, e, rfl, rfl⟩
  | false => exact ⟨_, e, rfl, rfl⟩
section
variable {X : Cx} {pins : List (Addr × Obj)} {σ : L2.St} {H : Hp} {s : Shared}
theorem sqx {b : Bool} {a : Addr} {xs : List V} (I : Inv X pins σ H s) (h : SqX X.K H b a xs) : ∃ its : List Value, Vals xs its ∧ IsSq s.heap b a its.toArray ∧ a < s.heap.objs.size := by
  cases b with
  | true =>
    obtain ⟨its, rv, p, _⟩ := I.tuple h
    obtain ⟨o, ho, _⟩ := id p
    exact ⟨its, rv, p, Heap.lt_size ho⟩
  | false =>
    obtain ⟨its, rv, p, _⟩ := I.list h
    exact ⟨its, rv, p.isList, p.lt⟩
theorem sqx_inj {b : Bool} {a : Addr} {xs ys : List V} (I : Inv X pins σ H s) (h : SqX X.K H b a xs) (h' : SqX X.K H b a ys) : xs = ys := by
  cases b with
  | true => exact I.tuple_inj h h'
  | false => exact I.list_inj h h'
end
def Itzs (K : PySem.W.Frag) (b1 : Bool) (a : Addr) (b2 : Bool) (b : Addr) : It :=
  ⟨fun i H => ∃ (xs ys : List V) (x y : V), SqX K H b1 a xs ∧ SqX K H b2 b ys ∧ xs[i]? = some x ∧ ys[i]? = some y,
    fun i H v H' => ∃ T x y, v = .ref T ∧ H T = none ∧ H' = upd H T (.tup [x, y]) ∧ (∀ xs, SqX K H b1 a xs → xs[i]? = some x) ∧ ∀ ys, SqX K H b2 b ys → ys[i]? = some y,
    fun i H => ∃ xs ys : List V, SqX K H b1 a xs ∧ SqX K H b2 b ys ∧ xs.length ≤ i ∧ ys.length ≤ i⟩
theorem turn_zs {P : Program} {w : World} {K : PySem.W.Frag} {elts : List Expr} {kk : Nat} {tpos : Pos} {b1 b2 : Bool} {a b z TI TO i1 i2 : Addr} (D : ZipApart z TI TO i1 i2 a b) :
    Turn P w K (.Tuple elts kk tpos) (Itzs K b1 a b2 b) [z, TI, TO, i1, i2] z (fun i h => IsZs h z TI TO .none ∧ IsPair h TI (.ref i1) (.ref i2) ∧ (∃ x y, IsPair h TO x y) ∧ IsIt h b1 i1 a i ∧ IsIt h b2 i2 b i) where
  mem := by simp
  obj := fun i h st c hc => by
    obtain ⟨hz, hTI, ⟨x, y, hTO⟩, h1, h2⟩ := st
    have e' : c = z ∨ c = TI ∨ c = TO ∨ c = i1 ∨ c = i2 := by simpa using hc
    rcases e' with q | q | q | q | q
    · rw [q]; exact ⟨_, hz, fun v q => nomatch q⟩
    · rw [q]; exact ⟨_, hTI, fun v q => nomatch q⟩
    · rw [q]; exact ⟨_, hTO, fun v q => nomatch q⟩
    · rw [q]; exact h1.live
    · rw [q]; exact h2.live
  keep := fun i h h' st k => by
    obtain ⟨hz, hTI, ⟨x, y, hTO⟩, h1, h2⟩ := st
    exact ⟨k z (by simp) _ hz, k TI (by simp) _ hTI, ⟨x, y, k TO (by simp) _ hTO⟩, h1.at fun o q => k i1 (by simp) o q, h2.at fun o q => k i2 (by simp) o q⟩
  item := by
    intro X hP hw hK hc i pins s σ H E I hf st hg
    subst hP hw hK
    obtain ⟨hz, hTI, ⟨x0, y0, hTO⟩, h1, h2⟩ := st
    obtain ⟨xs, ys, x, y, hqx, hqy, hx, hy⟩ := hg
    obtain ⟨its, rv, p, _⟩ := sqx I hqx
    obtain ⟨its2, rv2, p2, _⟩ := sqx I hqy
    obtain ⟨u, hu, ru⟩ := rv.get hx
    obtain ⟨u2, hu2, ru2⟩ := rv2.get hy
    have hzl : z < s.heap.objs.size := Heap.lt_size hz
    refine zs_pyNext_item D hz hTI hTO h1 h2 p p2 (x := u) (y := u2) (by simpa using hu) (by simpa using hu2) fun h' z' TO' h1' h2' hT hsz hk => ?_
    refine ⟨_, rfl, zs_letGo (s := { s with heap := h' }) z' fun h'' z'' sb => ?_⟩
    have hT2 : h''.get? s.heap.objs.size = some { cls := .type "tuple", data := .seq #[u, u2] } := (sb.2 _ (Nat.ne_of_gt hzl)).trans hT
    have new : ObjOk X.prog X.w (upd H s.heap.objs.size (.tup [x, y])) h'' s.heap.objs.size (.tup [x, y]) :=
      ⟨by show 2 ≤ sizeLine; decide, [u, u2], .cons ru (.cons ru2 .nil), ⟨_, hT2, rfl, _, rfl⟩⟩
    have I1 : Inv X pins σ (upd H s.heap.objs.size (.tup [x, y])) { s with heap := h'' } :=
      I.turnedNew (t' := s.toks) (ch := [z, TI, TO, i1, i2]) (fun c o hb q => (sb.2 c (fun q' => hb (by simp [q']))).trans (hk c o (fun q' => hb (by simp [q'])) (fun q' => hb (by simp [q'])) (fun q' => hb (by simp [q'])) (fun q' => hb (by simp [q'])) q)) hf (Nat.le_refl _) new
    refine ⟨.ref s.heap.objs.size, _, I1, rfl, ⟨_, x, y, rfl, I.hok.fresh (Nat.le_refl _), rfl, fun l hl => by rw [sqx_inj I hl hqx]; exact hx, fun l hl => by rw [sqx_inj I hl hqy]; exact hy⟩, ⟨z'', ?_, ⟨u, u2, ?_⟩, ?_, ?_⟩, fun c hcm => ?_⟩
    · exact (sb.2 _ D.TIz).trans (hk _ _ D.TIz D.TITO D.TIi1 D.TIi2 hTI)
    · exact (sb.2 _ D.TOz).trans TO'
    · exact h1'.at fun o q => (sb.2 _ D.i1z).trans q
    · exact h2'.at fun o q => (sb.2 _ D.i2z).trans q
    · have hlt : c < s.heap.objs.size := by
        have e' : c = z ∨ c = TI ∨ c = TO ∨ c = i1 ∨ c = i2 := by simpa using hcm
        rcases e' with q | q | q | q | q
        · rw [q]; exact hzl
        · rw [q]; exact Heap.lt_size hTI
        · rw [q]; exact Heap.lt_size hTO
        · rw [q]; obtain ⟨_, e1, _⟩ := h1.live; exact Heap.lt_size e1
        · rw [q]; obtain ⟨_, e2, _⟩ := h2.live; exact Heap.lt_size e2
      rw [upd_ne (Nat.ne_of_lt hlt)]
      exact (hf c hcm).1
  done := by
    intro X hP hw hK hc i pins s σ H E I hf st hg
    subst hP hw hK
    obtain ⟨hz, hTI, ⟨x0, y0, hTO⟩, h1, h2⟩ := st
    obtain ⟨xs, ys, hqx, hqy, hend, hend2⟩ := hg
    obtain ⟨its, rv, p, _⟩ := sqx I hqx
    obtain ⟨its2, rv2, p2, _⟩ := sqx I hqy
    have l1 := rv.length
    have l2 := rv2.length
    exact zs_pyNext_end (I.ok.hd hc) D hz hTI hTO h1 h2 p p2 (by simp; omega) (by simp; omega) fun h' hk => ⟨rfl, I.turnedL (t' := s.toks) (ch := [z, TI, TO, i1, i2]) (fun c o hb q =>
      hk c o (fun q' => hb (by simp [q'])) (fun q' => hb (by simp [q'])) (fun q' => hb (by simp [q'])) (fun q' => hb (by simp [q'])) q) hf⟩
  self := fun A i s Q E st h => zs_pyIter st.1 h
end Z
end GL
/-! GL part 15c: for .. in zip(a, b, strict=True). -/
namespace GL
open PySem L2 PyProof.Rows
namespace Z
/-! ### a call of a built-in class with keywords -/
theorem callWith_tyKw {M : Model} {A : Around} {E : Value → Shared → Prop} {s : Shared} {env : Env} {pos : Pos} {T : String} {e : Expr} {rest : List Expr} {kws : List Keyword} {Q : Value → Shared → Prop}
    (h : wpAny M A (spliced (backTo pos (starEach (e :: rest) env))) (fun vs s₁ => wpAny M A (evalAll ((backToKw pos (keywordEach kws env)).map (·.2)))
      (fun kvs s₂ => wpAny M A (call (.type T) vs (((backToKw pos (keywordEach kws env)).filterMap (·.1)).zip kvs)) Q E s₂) E s₁) E s)
    (he : backTo pos (starEach (e :: rest) env) = (false, eval e env) :: backTo pos (starEach rest env) := by rfl)
    (hplain : (backTo pos (starEach (e :: rest) env)).any (·.1) = false := by rfl)
    (hall : (backToKw pos (keywordEach kws env)).all (·.1.isSome) = true := by rfl)
    (hkw : (backToKw pos (keywordEach kws env)).any (·.1.isNone) = false := by rfl) :
    wpAny M A (callWith pos (.type T) [] (backTo pos (starEach (e :: rest) env)) (backToKw pos (keywordEach kws env))) Q E s := by
  have h' : wpAny M A (evalArgs (.type T) true (backTo pos (starEach (e :: rest) env)) (backToKw pos (keywordEach kws env))) (fun a s₁ => wpAny M A (call (.type T) ([] ++ a.pos) a.kw) Q E s₁) E s := by
    rw [he] at h ⊢
    exact evalArgs_kwB hall h
  unfold callWith
  refine wpAny_bind (wpAny_holding (wpAny_mono h' (fun a s₁ h₁ => wpAny_bind (wpAny_standAt ?_)) fun _ _ x => x))
  simp only [hplain, hkw, Bool.or_false]
  refine wpAny_bind (wpAny_pure ?_)
  exact wpAny_bind (wpAny_mono h₁ (fun r s₂ hr => wpAny_bind (wpAny_holding (wpAny_point (wpAny_pure hr)))) fun _ _ x => x)
end Z
/-- the items of a list or a tuple that stand while a loop walks them -/
def seqX : D → Gh → Option (Bool × List D × Gd)
  | .lst xs, _ => some (false, xs, none)
  | .tup xs, _ => some (true, xs, none)
  | .loc n, g => match g[n]? with
    | some (.lst xs) => some (false, xs, some (n, xs))
    | _ => none
  | _, _ => none
def gdAnd : Gd → Gd → Option Gd
  | none, x => some x
  | x, none => some x
  | _, _ => none
def pairD (xs ys : List D) : List D := List.zipWith (fun x y => .tup [x, y]) xs ys
/-- zip(a, b, strict=True) of two of one length -/
def iZipS (a b : ME) : MI := fun env g => (a env g).bind fun x g1 => (b env g1).bind fun y g2 => match seqX x g2, seqX y g2 with
  | some (_, xs, gx), some (_, ys, gy) => (match gdAnd gx gy with
    | some gd => if xs.length = ys.length then .ok (pairD xs ys, gd) g2 else .bad
    | none => .bad)
  | _, _ => .bad
section
variable {M : Im}
/-- what such a value is, through the walk -/
theorem seqX_keeps {w : Wd} {fr : List (Addr × HO)} {env : Env'} {G : Gh} {σ : L2.St} {H : Hp} {d : D} {v : V} {b : Bool} {xs : List D} {gd : Gd} (dv : DV M w d v) (e : seqX d G = some (b, xs, gd)) :
    ∃ q, v = .ref q ∧ (∀ w' fr env G' σ H', w.Le w' → RS M w' fr env G' σ H' → gdOk gd G' → ∃ vs, Z.SqX M.K H' b q vs ∧ DVs M w' xs vs) ∧ gdOk gd G := by
  cases dv <;> try cases e
  · rename_i a vs hs hd
    exact ⟨_, rfl, fun w' fr env G' σ H' l r _ => ⟨vs, SqT.mono (fun a o e => r.cold _ _ (l.c _ _ e)) hs, hd.up l⟩, trivial⟩
  · rename_i a vs hs hd
    exact ⟨_, rfl, fun w' fr env G' σ H' l r _ => ⟨vs, .inl (.inl (r.cold _ _ (l.c _ _ hs))), hd.up l⟩, trivial⟩
  · rename_i n q hn
    simp only [seqX] at e
    cases eo : G[n]? with
    | none => rw [eo] at e; cases e
    | some o =>
      rw [eo] at e
      cases o with
      | ins c fs => cases e
      | lst ys =>
        cases e
        refine ⟨_, rfl, fun w' fr env G' σ H' l r hg => ?_, eo⟩
        obtain ⟨a, ho, h1, h2, h3⟩ := r.obj (show G'[n]? = some (.lst xs) from hg)
        rw [l.r _ _ hn] at h1; cases h1
        cases h3 with
        | lst h3 => exact ⟨_, .inl (.inl h2), h3⟩
theorem gdAnd_ok {x y z : Gd} {G : Gh} (e : gdAnd x y = some z) (h : gdOk z G) : gdOk x G ∧ gdOk y G := by
  cases x <;> cases y <;> cases e <;> first | exact ⟨trivial, trivial⟩ | exact ⟨trivial, h⟩ | exact ⟨h, trivial⟩
theorem gdAnd_mk {x y z : Gd} {G : Gh} (e : gdAnd x y = some z) (h : gdOk x G) (h' : gdOk y G) : gdOk z G := by
  cases x <;> cases y <;> cases e <;> first | exact trivial | exact h | exact h'
theorem itok_zs {w : Wd} {b1 b2 : Bool} {q1 q2 : Addr} {xs ys : List D} {gx gy gd : Gd} (hl : xs.length = ys.length) (e : gdAnd gx gy = some gd)
    (k1 : ∀ w' fr env G' σ H', w.Le w' → RS M w' fr env G' σ H' → gdOk gx G' → ∃ vs, Z.SqX M.K H' b1 q1 vs ∧ DVs M w' xs vs)
    (k2 : ∀ w' fr env G' σ H', w.Le w' → RS M w' fr env G' σ H' → gdOk gy G' → ∃ vs, Z.SqX M.K H' b2 q2 vs ∧ DVs M w' ys vs) : ItOk M w gd (Z.Itzs M.K b1 q1 b2 q2) (pairD xs ys) where
  go := fun i w' fr env G σ H l r hg hi => by
    obtain ⟨vs, a1, a2⟩ := k1 w' fr env G σ H l r (gdAnd_ok e hg).1
    obtain ⟨us, c1, c2⟩ := k2 w' fr env G σ H l r (gdAnd_ok e hg).2
    have hi : i < xs.length := by unfold pairD at hi; rw [List.length_zipWith] at hi; omega
    have h1 : i < vs.length := by rw [← a2.length]; exact hi
    have h2 : i < us.length := by rw [← c2.length]; omega
    exact ⟨vs, us, _, _, a1, c1, List.getElem?_eq_getElem h1, List.getElem?_eq_getElem h2⟩
  yld := fun i w' fr env G σ H x H' d l r hg hi y => by
    obtain ⟨T, vx, vy, rfl, hT, rfl, f1, f2⟩ := y
    obtain ⟨vs, a1, a2⟩ := k1 w' fr env G σ H l r (gdAnd_ok e hg).1
    obtain ⟨us, c1, c2⟩ := k2 w' fr env G σ H l r (gdAnd_ok e hg).2
    unfold pairD at hi
    rw [List.getElem?_zipWith] at hi
    cases ex : xs[i]? with
    | none => rw [ex] at hi; cases hi
    | some dx =>
      cases ey : ys[i]? with
      | none => rw [ex, ey] at hi; cases hi
      | some dy =>
        rw [ex, ey] at hi
        cases hi
        obtain ⟨v1, z1, z2⟩ := a2.get ex
        obtain ⟨v2, z3, z4⟩ := c2.get ey
        have e1 := f1 vs a1
        have e2 := f2 us c1
        rw [z1] at e1; cases e1
        rw [z3] at e2; cases e2
        obtain ⟨l', r'⟩ := r.newCold (o := .tup [vx, vy]) hT
        exact ⟨_, l', r', .tup (.inl (.inl upd_same)) (.cons (z2.up l') (.cons (z4.up l') .nil))⟩
  stop := fun w' fr env G σ H l r hg => by
    obtain ⟨vs, a1, a2⟩ := k1 w' fr env G σ H l r (gdAnd_ok e hg).1
    obtain ⟨us, c1, c2⟩ := k2 w' fr env G σ H l r (gdAnd_ok e hg).2
    refine ⟨vs, us, a1, c1, ?_, ?_⟩
    · unfold pairD; rw [List.length_zipWith, ← a2.length]; omega
    · unfold pairD; rw [List.length_zipWith, ← c2.length]; omega
end
def iZipB (K : PySem.W.Frag) (ta : TA) : TI := fun σ H R => ta σ H fun vs H1 => ∃ a b b1 b2 xs ys, vs = [.ref a, .ref b] ∧ Z.SqX K H1 b1 a xs ∧ Z.SqX K H1 b2 b ys ∧ R (Z.Itzs K b1 a b2 b) H1
theorem pi_zipS {X : Cx} {e e2 : Expr} {ta : TA} {p pos tpos kp kc : Pos} {elts : List Expr} {kk kn : Nat} (hg : Gl X "zip") (hm : X.mg "zip" = none) (ha : PA X [e, e2] ta)
    (hs : starEach [e, e2] X.env = (false, eval e X.env) :: starEach [e2] X.env) (hs2 : starEach [e2] X.env = (false, eval e2 X.env) :: starEach [] X.env) :
    PI X (.Tuple elts kk tpos) (.Call (.Name "zip" p) [e, e2] [⟨some "strict", .Constant (.bool true) kn kc, kp⟩] pos) (iZipB X.K ta) := by
  refine ⟨fun pins s σ H R I h => ?_⟩
  refine wpAny_Call_Name_kw (ld_blt I hg hm PyProof.Rows.boot_zip ?_)
  refine Z.callWith_tyKw (thn (ha.run pos pins s σ H _ I h) fun us s1 ⟨vs, H1, I1, r1, q1⟩ => ?_) (by rw [hs]; rfl) (by rw [hs, hs2]; rfl) rfl rfl
  refine kws_cons ?_
  refine thn ((pe_bl (X := X) (b := true) (j := kn) (pos := kc)).run pins s1 σ H1 (fun v H' => v = .bl true ∧ H' = H1) I1 ⟨rfl, rfl⟩) fun vb s2 ⟨vv, H2, I2, rv2, ev, eh⟩ => ?_
  subst ev eh
  cases rv2
  refine kws_nil ?_
  obtain ⟨a, b, b1, b2, xs, ys, ex, hqx, hqy, q⟩ := q1
  subst ex
  cases r1 with
  | cons r rr =>
    cases rr with
    | cons r' rr =>
      cases rr
      cases r
      cases r'
      obtain ⟨its, rv, p1, la⟩ := Z.sqx I2 hqx
      obtain ⟨its2, rv2, p2, lb⟩ := Z.sqx I2 hqy
      have fresh5 : ∀ c, c ∈ [s2.heap.objs.size + 4, s2.heap.objs.size + 2, s2.heap.objs.size + 3, s2.heap.objs.size, s2.heap.objs.size + 1] → FpOk X pins H2 c := fun c hcm => by
        have e' : c = s2.heap.objs.size + 4 ∨ c = s2.heap.objs.size + 2 ∨ c = s2.heap.objs.size + 3 ∨ c = s2.heap.objs.size ∨ c = s2.heap.objs.size + 1 := by simpa using hcm
        have hle : s2.heap.objs.size ≤ c := by
          rcases e' with z | z | z | z | z
          · rw [z]; exact Nat.le_add_right _ _
          · rw [z]; exact Nat.le_add_right _ _
          · rw [z]; exact Nat.le_add_right _ _
          · rw [z]; exact Nat.le_refl _
          · rw [z]; exact Nat.le_add_right _ _
        exact I2.fpOk hle (I2.hok.fresh hle)
      refine Z.zip_beginsS (Z.begins_sq b1 a its.toArray) (Z.begins_sq b2 b its2.toArray) p1 p2 fun h' hz hTI hTO h1 h2 hsz hk => Z.zs_pyIter hz ?_
      have I3 : Inv X pins σ H2 { s2 with heap := h' } := I2.kept (t' := s2.toks) hk
      exact ⟨s2.heap.objs.size + 4, [s2.heap.objs.size + 4, s2.heap.objs.size + 2, s2.heap.objs.size + 3, s2.heap.objs.size, s2.heap.objs.size + 1], _, _, H2, rfl, I3, Z.turn_zs (PySem.W.ktu_apart s2.heap.objs.size a b la lb), ⟨hz, hTI, ⟨_, _, hTO⟩, Z.isIt_obj h1, Z.isIt_obj h2⟩, fresh5, q⟩
section
variable {M : Im} {W : XW} {X : Cx} {k : Nat} {a b : Expr} {ma mb : ME} {pos p tpos kp kc : Pos} {elts : List Expr} {kk kn : Nat}
theorem si_zipS (g : GX M k X) (hg : Gl X "zip") (hm : M.mg "zip" = none) (ha : SE M W X a ma) (hb : SE M W X b mb)
    (hs : starEach [a, b] X.env = (false, eval a X.env) :: starEach [b] X.env) (hs2 : starEach [b] X.env = (false, eval b X.env) :: starEach [] X.env) :
    SI M W X (.Tuple elts kk tpos) (.Call (.Name "zip" p) [a, b] [⟨some "strict", .Constant (.bool true) kn kc, kp⟩] pos) (iZipS ma mb) := by
  obtain ⟨t, a1, a2⟩ := ha
  obtain ⟨u, b1, b2⟩ := hb
  refine ⟨_, pi_zipS hg (by rw [g.mg]; exact hm) (pa_cons a1 (pa_cons b1 pa_nil hs2) hs) hs hs2, fun w fr env G σ H Q r h => ?_⟩
  refine a2 w fr env G σ H _ r ((Post.bind h).imp fun x w1 G1 H1 l1 r1 h1 vx dx => ?_)
  refine b2 w1 fr env G1 σ H1 _ r1 ((Post.bind h1).imp fun y w2 G2 H2 l2 r2 h2 vy dy => ?_)
  cases ex : seqX x G2 with
  | none => rw [ex] at h2; exact h2.elim
  | some px =>
  cases ey : seqX y G2 with
  | none => rw [ex, ey] at h2; exact h2.elim
  | some py =>
  obtain ⟨bx, xs, gx⟩ := px
  obtain ⟨by', ys, gy⟩ := py
  rw [ex, ey] at h2
  simp only at h2
  cases eg : gdAnd gx gy with
  | none => rw [eg] at h2; exact h2.elim
  | some gd =>
    rw [eg] at h2
    by_cases hl : xs.length = ys.length
    · simp only [hl, if_true] at h2
      obtain ⟨q1, rfl, k1, g1⟩ := seqX_keeps (fr := fr) (env := env) (σ := σ) (H := H2) (dx.up l2) ex
      obtain ⟨q2, rfl, k2, g2⟩ := seqX_keeps (fr := fr) (env := env) (σ := σ) (H := H2) dy ey
      obtain ⟨vs, s1, _⟩ := k1 w2 fr env G2 σ H2 (Wd.Le.refl _) r2 g1
      obtain ⟨us, s2, _⟩ := k2 w2 fr env G2 σ H2 (Wd.Le.refl _) r2 g2
      rw [← g.K] at s1 s2
      exact ⟨q1, q2, bx, by', vs, us, rfl, s1, s2, Post.here h2 r2 _ (by rw [g.K]; exact itok_zs hl eg k1 k2) (gdAnd_mk eg g1 g2)⟩
    · simp only [hl, if_false] at h2; exact h2.elim
end
section
variable {c : Cn} {W : XW} {N : List Str} {sc : Scope} {fnf : Str → Bool} {X : Cx} {a b : Expr} {ma mb : ME} {pos p tpos kp kc : Pos} {elts : List Expr} {kk kn : Nat}
theorem w_zipS (o : OkX c N sc fnf X) (h : chkG sc "zip" = true) (hm : c.M.mg "zip" = none) (ha : SE c.M W X a ma) (hb : SE c.M W X b mb)
    (hs : starEach [a, b] X.env = (false, eval a X.env) :: starEach [b] X.env) (hs2 : starEach [b] X.env = (false, eval b X.env) :: starEach [] X.env) :
    SI c.M W X (.Tuple elts kk tpos) (.Call (.Name "zip" p) [a, b] [⟨some "strict", .Constant (.bool true) kn kc, kp⟩] pos) (iZipS ma mb) := si_zipS o.g (chkG_gl o h).1 hm ha hb hs hs2
end
section
variable {env : Env'} {g : Gh} {a b : ME} {xs : List D}
@[simp] theorem seqX_lst : seqX (.lst xs) g = some (false, xs, none) := rfl
@[simp] theorem seqX_tup : seqX (.tup xs) g = some (true, xs, none) := rfl
@[simp] theorem gdAnd_none {x : Gd} : gdAnd none x = some x := rfl
@[simp] theorem iZipS_ap : iZipS a b env g = (a env g).bind fun x g1 => (b env g1).bind fun y g2 => match seqX x g2, seqX y g2 with
  | some (_, xs, gx), some (_, ys, gy) => (match gdAnd gx gy with
    | some gd => if xs.length = ys.length then .ok (pairD xs ys, gd) g2 else .bad
    | none => .bad)
  | _, _ => .bad := rfl
end
end GL
/-! GL part 36: `is` with True and False; `x or y` by truth. -/
namespace GL
open PySem L2 PyProof.Rows
def isopB : CmpOp → D → D → Gh → R D
  | .Is, .bl a, .bl b, g => .ok (.bl (decide (a = b))) g
  | .IsNot, .bl a, .bl b, g => .ok (.bl (!decide (a = b))) g
  | _, _, _, _ => .bad
def eIsB (op : CmpOp) (a b : ME) : ME := fun env g => (a env g).bind fun x g1 => (b env g1).bind fun y g2 => isopB op x y g2
def truD : D → Option Bool
  | .non => some false
  | .bl b => some b
  | .tup xs => some (!xs.isEmpty)
  | _ => none
def eOrV (a b : ME) : ME := fun env g => (a env g).bind fun x g1 => match truD x with
  | some true => .ok x g1
  | some false => b env g1
  | none => .bad
section
variable {M : Im} {W : XW} {X : Cx} {k : Nat} {a b : Expr} {ma mb : ME} {pos : Pos} {rest : List Expr}
theorem isopB_ok (g : GX M k X) (op : CmpOp) : OpOk M W X (compareOp op) (isopB op) := by
  have never : ∀ f : Value → Value → Sem Value, OpR X f (fun _ _ _ _ => False) := fun f _ _ _ _ _ _ _ _ _ _ _ _ h => h.elim
  cases op with
  | Is =>
    refine ⟨_, op_is_bl, fun w fr env G σ H Q x y vx vy r hx hy h => ?_⟩
    cases x <;> cases y <;> try exact h.elim
    cases hx; cases hy
    exact ⟨_, _, rfl, rfl, Post.here h r _ (.bl _)⟩
  | IsNot =>
    refine ⟨_, op_isnot_bl, fun w fr env G σ H Q x y vx vy r hx hy h => ?_⟩
    cases x <;> cases y <;> try exact h.elim
    cases hx; cases hy
    exact ⟨_, _, rfl, rfl, Post.here h r _ (.bl _)⟩
  | _ => exact ⟨_, never _, fun w fr env G σ H Q x y vx vy r hx hy h => by unfold isopB at h; exact h⟩
theorem se_isB (g : GX M k X) {op : CmpOp} (ha : SE M W X a ma) (hb : SE M W X b mb) (hm : behindInMarks op b = false) : SE M W X (.Compare a [op] [b] pos) (eIsB op ma mb) := by
  obtain ⟨r, o1, o2⟩ := isopB_ok (W := W) g op
  obtain ⟨ta, a1, a2⟩ := ha
  obtain ⟨tb, b1, b2⟩ := hb
  refine ⟨_, pe_cmpR o1 a1 b1 hm, fun w fr env G σ H Q rs h => ?_⟩
  refine a2 w fr env G σ H _ rs ((Post.bind h).imp fun x w1 G1 H1 l1 r1 h1 vx dx => ?_)
  refine b2 w1 fr env G1 σ H1 _ r1 ((Post.bind h1).imp fun y w2 G2 H2 l2 r2 h2 vy dy => ?_)
  exact o2 w2 fr env G2 σ H2 Q x y vx vy r2 (dx.up l2) dy h2
theorem st_isB (g : GX M k X) {op : CmpOp} (ha : SE M W X a ma) (hb : SE M W X b mb) (hm : behindInMarks op b = false) : ST M W X (.Compare a [op] [b] pos) (tV (eIsB op ma mb)) := by
  obtain ⟨r, o1, o2⟩ := isopB_ok (W := W) g op
  obtain ⟨ta, a1, a2⟩ := ha
  obtain ⟨tb, b1, b2⟩ := hb
  refine ⟨_, pt_cmpR o1 a1 b1 hm, fun w fr env G σ H Q rs h => ?_⟩
  have h := Post.bind h
  have h := Post.bind h
  refine a2 w fr env G σ H _ rs (h.imp fun x w1 G1 H1 l1 r1 h1 vx dx => ?_)
  refine b2 w1 fr env G1 σ H1 _ r1 ((Post.bind h1).imp fun y w2 G2 H2 l2 r2 h2 vy dy => ?_)
  refine o2 w2 fr env G2 σ H2 _ x y vx vy r2 (dx.up l2) dy (h2.imp fun z w3 G3 H3 l3 r3 h3 vz dz => ?_)
  obtain ⟨b, e, h4⟩ := asB_post h3 dz
  exact ⟨b, e, Post.here h4 r3⟩
theorem se_orV (g : GX M k X) (ha : SE M W X a ma) (hb : SE M W X (.BoolOp .Or (b :: rest) pos) mb) : SE M W X (.BoolOp .Or (a :: b :: rest) pos) (eOrV ma mb) := by
  obtain ⟨ta, a1, a2⟩ := ha
  obtain ⟨tb, b1, b2⟩ := hb
  refine ⟨_, pe_orT a1 b1, fun w fr env G σ H Q rs h => ?_⟩
  refine a2 w fr env G σ H _ rs ((Post.bind h).imp fun x w1 G1 H1 l1 r1 h1 vx dx => ?_)
  cases dx <;> try exact h1.elim
  · exact ⟨false, rfl, b2 w1 fr env G1 σ H1 Q r1 h1⟩
  · rename_i c
    refine ⟨c, rfl, ?_⟩
    cases c with
    | true => exact Post.here h1 r1 _ (.bl _)
    | false => exact b2 w1 fr env G1 σ H1 Q r1 h1
  · rename_i xs vs p hs hd
    have ht := SqT.mono r1.cold hs
    rw [← g.K] at ht
    refine ⟨!vs.isEmpty, .inr (.inl ⟨vs, ht, rfl⟩), ?_⟩
    cases hd with
    | nil => exact b2 w1 fr env G1 σ H1 Q r1 h1
    | cons p q => exact Post.here h1 r1 _ (.tup hs (.cons p q))
end
section
variable {c : Cn} {W : XW} {N : List Str} {sc : Scope} {fnf : Str → Bool} {X : Cx} {a b : Expr} {ma mb : ME} {pos : Pos} {rest : List Expr}
theorem w_isB (o : OkX c N sc fnf X) {op : CmpOp} (ha : SE c.M W X a ma) (hb : SE c.M W X b mb) (hm : behindInMarks op b = false) : SE c.M W X (.Compare a [op] [b] pos) (eIsB op ma mb) := se_isB o.g ha hb hm
theorem w_tisB (o : OkX c N sc fnf X) {op : CmpOp} (ha : SE c.M W X a ma) (hb : SE c.M W X b mb) (hm : behindInMarks op b = false) : ST c.M W X (.Compare a [op] [b] pos) (tV (eIsB op ma mb)) := st_isB o.g ha hb hm
theorem w_orV (o : OkX c N sc fnf X) (ha : SE c.M W X a ma) (hb : SE c.M W X (.BoolOp .Or (b :: rest) pos) mb) : SE c.M W X (.BoolOp .Or (a :: b :: rest) pos) (eOrV ma mb) := se_orV o.g ha hb
end
@[simp] theorem eIsB_ap {op : CmpOp} {a b : ME} {env : Env'} {g : Gh} : eIsB op a b env g = (a env g).bind fun x g1 => (b env g1).bind fun y g2 => isopB op x y g2 := rfl
@[simp] theorem eOrV_ap {a b : ME} {env : Env'} {g : Gh} : eOrV a b env g = (a env g).bind fun x g1 => match truD x with | some true => .ok x g1 | some false => b env g1 | none => .bad := rfl
end GL
namespace LW
open PySem L2 GL PyProof.Rows
def top (i : Nat) : Stmt := PySem.Challenge.pw_fednumbers_k38_whole_the_best_test.main.body.getD i (.Pass ⟨0, 0, 0, 0⟩)
def okV2 (n : Nat) : Bool := [7, 8, 9, 10].contains n
def v_NOUGHT : D := .tup [.int 0, .int 1]
def v_LEAF : D := .str "leaf"
def v_TEST : D := .str "test"
def v_MOST_FLOORS : D := .int 8
def t_WORKS (x : Str) : Option D := if x = "plus" then some (.fn 7) else if x = "minus" then some (.fn 8) else if x = "times" then some (.fn 9) else if x = "over" then some (.fn 10) else none
theorem tv_WORKS_plus : t_WORKS "plus" = some (.fn 7) := by
  unfold t_WORKS; rw [if_pos rfl]
theorem tv_WORKS_minus : t_WORKS "minus" = some (.fn 8) := by
  unfold t_WORKS; rw [if_neg (by decide +kernel), if_pos rfl]
theorem tv_WORKS_times : t_WORKS "times" = some (.fn 9) := by
  unfold t_WORKS; rw [if_neg (by decide +kernel), if_neg (by decide +kernel), if_pos rfl]
theorem tv_WORKS_over : t_WORKS "over" = some (.fn 10) := by
  unfold t_WORKS; rw [if_neg (by decide +kernel), if_neg (by decide +kernel), if_neg (by decide +kernel), if_pos rfl]
abbrev s_is_whole : Stmt := top 2
def N_is_whole : List Str := ["thing"]
theorem sc_is_whole : FnScope N_is_whole ["thing"] (defScope s_is_whole) := ⟨rfl, rfl, rfl, by decide +kernel, rfl, by decide +kernel, by decide +kernel⟩
noncomputable def b_is_whole (F : Nat → FM) : MS := sRet (eAnd (eIsi isInt (eLv 0)) (eNot (tV (eIsi isBool (eLv 0)))))
abbrev s_is_within : Stmt := top 3
def N_is_within : List Str := ["thing", "least", "most"]
theorem sc_is_within : FnScope N_is_within ["thing", "least", "most"] (defScope s_is_within) := ⟨rfl, rfl, rfl, by decide +kernel, rfl, by decide +kernel, by decide +kernel⟩
noncomputable def b_is_within (F : Nat → FM) : MS := sRet (eAnd (eCall (F 1) 1 0 [0] [] (lCons (eLv 0) (lNil)) (lNil)) (eChain .LtE .LtE (eLv 1) (eLv 0) (eLv 2)))
abbrev s_common_part : Stmt := top 4
def N_common_part : List Str := ["one", "other"]
theorem sc_common_part : FnScope N_common_part ["one", "other"] (defScope s_common_part) := ⟨rfl, rfl, rfl, by decide +kernel, rfl, by decide +kernel, by decide +kernel⟩
noncomputable def wl_common_part_1 (F : Nat → FM) : MS := sPar 0 1 (lCons (eLv 1) (lCons (eBin .Sub (eLv 0) (eBin .Mult (eBin .FloorDiv (eLv 0) (eLv 1)) (eLv 1))) (lNil)))
noncomputable def wt_common_part_2 (F : Nat → FM) : MT := tV (eCmp .NotEq (eLv 1) (eC (.int 0)))
noncomputable def b_common_part (F : Nat → FM) : MS := sSeq (sPar 0 1 (lCons (eBi oAbs (lCons (eLv 0) (lNil))) (lCons (eBi oAbs (lCons (eLv 1) (lNil))) (lNil)))) (sSeq (sWhile (wt_common_part_2 F) (wl_common_part_1 F)) (sRet (eLv 0)))
abbrev s_lowest : Stmt := top 5
def N_lowest : List Str := ["top", "under", "part"]
theorem sc_lowest : FnScope N_lowest ["top", "under"] (defScope s_lowest) := ⟨rfl, rfl, rfl, by decide +kernel, rfl, by decide +kernel, by decide +kernel⟩
noncomputable def b_lowest (F : Nat → FM) : MS := sSeq (sSet 2 (eCall (F 3) 2 0 [0, 1] [] (lCons (eLv 0) (lCons (eLv 1) (lNil))) (lNil))) (sSeq (sIf (tV (eCmp .Lt (eLv 1) (eC (.int 0)))) (sSet 2 (eNeg (eLv 2))) (sSkip)) (sRet (eTup (lCons (eBin .FloorDiv (eLv 0) (eLv 2)) (lCons (eBin .FloorDiv (eLv 1) (eLv 2)) (lNil))))))
abbrev s_is_ratio : Stmt := top 6
def N_is_ratio : List Str := ["thing"]
theorem sc_is_ratio : FnScope N_is_ratio ["thing"] (defScope s_is_ratio) := ⟨rfl, rfl, rfl, by decide +kernel, rfl, by decide +kernel, by decide +kernel⟩
noncomputable def b_is_ratio (F : Nat → FM) : MS := sSeq (sIf (tOr (tNot (tV (eIsi isTuple (eLv 0)))) (tOr (tV (eCmp .NotEq (eBi oLen (lCons (eLv 0) (lNil))) (eC (.int 2)))) (tOr (tNot (tV (eCall (F 1) 1 0 [0] [] (lCons (eSub (eLv 0) (eC (.int 0))) (lNil)) (lNil)))) (tNot (tV (eCall (F 1) 1 0 [0] [] (lCons (eSub (eLv 0) (eC (.int 1))) (lNil)) (lNil))))))) (sRet (eC (.bl false))) (sSkip)) (sRet (eAnd (eCmp .Gt (eSub (eLv 0) (eC (.int 1))) (eC (.int 0))) (eCmp .Eq (eCall (F 3) 2 0 [0, 1] [] (lCons (eSub (eLv 0) (eC (.int 0))) (lCons (eSub (eLv 0) (eC (.int 1))) (lNil))) (lNil)) (eC (.int 1)))))
abbrev s_held : Stmt := top 7
def N_held : List Str := ["one", "other", "left", "right"]
theorem sc_held : FnScope N_held ["one", "other"] (defScope s_held) := ⟨rfl, rfl, rfl, by decide +kernel, rfl, by decide +kernel, by decide +kernel⟩
noncomputable def b_held (F : Nat → FM) : MS := sSeq (sPar 2 3 (lCons (eBin .Mult (eSub (eLv 0) (eC (.int 0))) (eSub (eLv 1) (eC (.int 1)))) (lCons (eBin .Mult (eSub (eLv 1) (eC (.int 0))) (eSub (eLv 0) (eC (.int 1)))) (lNil)))) (sRet (eIf (tV (eCmp .Lt (eLv 2) (eLv 3))) (eNeg (eC (.int 1))) (eBi oInt (lCons (eCmp .Gt (eLv 2) (eLv 3)) (lNil)))))
abbrev s_ratio_plus : Stmt := top 8
def N_ratio_plus : List Str := ["one", "other"]
theorem sc_ratio_plus : FnScope N_ratio_plus ["one", "other"] (defScope s_ratio_plus) := ⟨rfl, rfl, rfl, by decide +kernel, rfl, by decide +kernel, by decide +kernel⟩
noncomputable def b_ratio_plus (F : Nat → FM) : MS := sRet (eCall (F 4) 2 0 [0, 1] [] (lCons (eBin .Add (eBin .Mult (eSub (eLv 0) (eC (.int 0))) (eSub (eLv 1) (eC (.int 1)))) (eBin .Mult (eSub (eLv 1) (eC (.int 0))) (eSub (eLv 0) (eC (.int 1))))) (lCons (eBin .Mult (eSub (eLv 0) (eC (.int 1))) (eSub (eLv 1) (eC (.int 1)))) (lNil))) (lNil))
abbrev s_ratio_minus : Stmt := top 9
def N_ratio_minus : List Str := ["one", "other"]
theorem sc_ratio_minus : FnScope N_ratio_minus ["one", "other"] (defScope s_ratio_minus) := ⟨rfl, rfl, rfl, by decide +kernel, rfl, by decide +kernel, by decide +kernel⟩
noncomputable def b_ratio_minus (F : Nat → FM) : MS := sRet (eCall (F 7) 2 0 [0, 1] [] (lCons (eLv 0) (lCons (eTup (lCons (eNeg (eSub (eLv 1) (eC (.int 0)))) (lCons (eSub (eLv 1) (eC (.int 1))) (lNil)))) (lNil))) (lNil))
abbrev s_ratio_times : Stmt := top 10
def N_ratio_times : List Str := ["one", "other"]
theorem sc_ratio_times : FnScope N_ratio_times ["one", "other"] (defScope s_ratio_times) := ⟨rfl, rfl, rfl, by decide +kernel, rfl, by decide +kernel, by decide +kernel⟩
noncomputable def b_ratio_times (F : Nat → FM) : MS := sRet (eCall (F 4) 2 0 [0, 1] [] (lCons (eBin .Mult (eSub (eLv 0) (eC (.int 0))) (eSub (eLv 1) (eC (.int 0)))) (lCons (eBin .Mult (eSub (eLv 0) (eC (.int 1))) (eSub (eLv 1) (eC (.int 1)))) (lNil))) (lNil))
abbrev s_ratio_over : Stmt := top 11
def N_ratio_over : List Str := ["one", "other"]
theorem sc_ratio_over : FnScope N_ratio_over ["one", "other"] (defScope s_ratio_over) := ⟨rfl, rfl, rfl, by decide +kernel, rfl, by decide +kernel, by decide +kernel⟩
noncomputable def b_ratio_over (F : Nat → FM) : MS := sRet (eIf (tV (eCmp .Eq (eSub (eLv 1) (eC (.int 0))) (eC (.int 0)))) (eC .non) (eCall (F 4) 2 0 [0, 1] [] (lCons (eBin .Mult (eSub (eLv 0) (eC (.int 0))) (eSub (eLv 1) (eC (.int 1)))) (lCons (eBin .Mult (eSub (eLv 0) (eC (.int 1))) (eSub (eLv 1) (eC (.int 0)))) (lNil))) (lNil)))
abbrev s_worked : Stmt := top 13
def N_worked : List Str := ["word", "one", "other", "work"]
theorem sc_worked : FnScope N_worked ["word", "one", "other"] (defScope s_worked) := ⟨rfl, rfl, rfl, by decide +kernel, rfl, by decide +kernel, by decide +kernel⟩
noncomputable def b_worked (F : Nat → FM) : MS := sSeq (sIf (tV (eCmp .Eq (eLv 0) (eC (.str "else")))) (sRet (eIf (tV (eCmp .Is (eLv 1) (eC .non))) (eLv 2) (eLv 1))) (sSkip)) (sSeq (sIf (tOr (tV (eCmp .Is (eLv 1) (eC .non))) (tV (eCmp .Is (eLv 2) (eC .non)))) (sRet (eC .non)) (sSkip)) (sSeq (sSet 3 (eTab t_WORKS (eLv 0))) (sRet (eCallV F okV2 2 3 (lCons (eLv 1) (lCons (eLv 2) (lNil)))))))
abbrev s_spread_of : Stmt := top 19
def N_spread_of : List Str := ["labels", "whole", "label"]
theorem sc_spread_of : FnScope N_spread_of ["labels"] (defScope s_spread_of) := ⟨rfl, rfl, rfl, by decide +kernel, rfl, by decide +kernel, by decide +kernel⟩
noncomputable def ce_spread_of_1 (F : Nat → FM) : ME := eBin .Mult (eLv 2) (eLv 2)
noncomputable def b_spread_of (F : Nat → FM) : MS := sSeq (sIf (tV (eCmp .Eq (eBi oLen (lCons (eLv 0) (lNil))) (eC (.int 0)))) (sRet (eC v_NOUGHT)) (sSkip)) (sSeq (sSet 1 (eBi oSum (lCons (eLv 0) (lNil)))) (sRet (eCall (F 4) 2 0 [0, 1] [] (lCons (eBin .Sub (eBin .Mult (eBi oLen (lCons (eLv 0) (lNil))) (eBi oSum (lCons (eNew (lComp (iV (eLv 0)) (gNm 2) (tTrue) (ce_spread_of_1 F) [2])) (lNil)))) (eBin .Mult (eLv 1) (eLv 1))) (lCons (eBi oLen (lCons (eLv 0) (lNil))) (lNil))) (lNil))))
abbrev s_labels_of : Stmt := top 20
def N_labels_of : List Str := ["rows", "numbers", "label"]
theorem sc_labels_of : FnScope N_labels_of ["rows"] (defScope s_labels_of) := ⟨rfl, rfl, rfl, by decide +kernel, rfl, by decide +kernel, by decide +kernel⟩
noncomputable def ce_labels_of_1 (F : Nat → FM) : ME := eLv 2
noncomputable def b_labels_of (F : Nat → FM) : MS := sRet (eNew (lComp (iV (eLv 0)) (gTp 2 (gsCons (gNm 1) (gsCons (gNm 2) (gsNil)))) (tTrue) (ce_labels_of_1 F) [1, 2]))
abbrev s_leaf_of : Stmt := top 21
def N_leaf_of : List Str := ["rows", "labels"]
theorem sc_leaf_of : FnScope N_leaf_of ["rows"] (defScope s_leaf_of) := ⟨rfl, rfl, rfl, by decide +kernel, rfl, by decide +kernel, by decide +kernel⟩
noncomputable def b_leaf_of (F : Nat → FM) : MS := sSeq (sSet 1 (eCall (F 13) 1 0 [0] [] (lCons (eLv 0) (lNil)) (lNil))) (sRet (eTup (lCons (eC v_LEAF) (lCons (eCall (F 4) 2 0 [0, 1] [] (lCons (eBi oSum (lCons (eLv 1) (lNil))) (lCons (eBi oLen (lCons (eLv 1) (lNil))) (lNil))) (lNil)) (lNil)))))
abbrev s_is_yes : Stmt := top 22
def N_is_yes : List Str := ["numbers", "column", "cut"]
theorem sc_is_yes : FnScope N_is_yes ["numbers", "column", "cut"] (defScope s_is_yes) := ⟨rfl, rfl, rfl, by decide +kernel, rfl, by decide +kernel, by decide +kernel⟩
noncomputable def b_is_yes (F : Nat → FM) : MS := sRet (eAnd (eCmp .IsNot (eSub (eLv 0) (eLv 1)) (eC .non)) (eCmp .LtE (eCall (F 6) 2 0 [0, 1] [] (lCons (eSub (eLv 0) (eLv 1)) (lCons (eLv 2) (lNil))) (lNil)) (eC (.int 0))))
abbrev s_rows_parted : Stmt := top 23
def N_rows_parted : List Str := ["rows", "column", "cut", "yes", "row"]
theorem sc_rows_parted : FnScope N_rows_parted ["rows", "column", "cut"] (defScope s_rows_parted) := ⟨rfl, rfl, rfl, by decide +kernel, rfl, by decide +kernel, by decide +kernel⟩
noncomputable def ce_rows_parted_1 (F : Nat → FM) : ME := eLv 4
noncomputable def ct_rows_parted_2 (F : Nat → FM) : MT := tV (eCall (F 15) 3 0 [0, 1, 2] [] (lCons (eSub (eLv 4) (eC (.int 0))) (lCons (eLv 1) (lCons (eLv 2) (lNil)))) (lNil))
noncomputable def ce_rows_parted_3 (F : Nat → FM) : ME := eLv 4
noncomputable def ct_rows_parted_4 (F : Nat → FM) : MT := tNot (tV (eCall (F 15) 3 0 [0, 1, 2] [] (lCons (eSub (eLv 4) (eC (.int 0))) (lCons (eLv 1) (lCons (eLv 2) (lNil)))) (lNil)))
noncomputable def b_rows_parted (F : Nat → FM) : MS := sSeq (sSet 3 (eNew (lComp (iV (eLv 0)) (gNm 4) (ct_rows_parted_2 F) (ce_rows_parted_1 F) [4]))) (sRet (eTup (lCons (eLv 3) (lCons (eNew (lComp (iV (eLv 0)) (gNm 4) (ct_rows_parted_4 F) (ce_rows_parted_3 F) [4])) (lNil)))))
abbrev s_rising_numbers : Stmt := top 24
def N_rising_numbers : List Str := ["numbers", "found", "number", "one"]
theorem sc_rising_numbers : FnScope N_rising_numbers ["numbers"] (defScope s_rising_numbers) := ⟨rfl, rfl, rfl, by decide +kernel, rfl, by decide +kernel, by decide +kernel⟩
noncomputable def ce_rising_numbers_1 (F : Nat → FM) : ME := eLv 3
noncomputable def ct_rising_numbers_2 (F : Nat → FM) : MT := tV (eCmp .Lt (eCall (F 6) 2 0 [0, 1] [] (lCons (eLv 3) (lCons (eLv 2) (lNil))) (lNil)) (eC (.int 0)))
noncomputable def lp_rising_numbers_3 (F : Nat → FM) : MS := sIf (tAnd (tV (eCmp .IsNot (eLv 2) (eC .non))) (tBor 1 (tV (eCmp .NotIn (eLv 2) (eLv 1))))) (sOwnIns 1 (eBor 1 (eBi oLen (lCons (eNew (lComp (iV (eLv 1)) (gNm 3) (ct_rising_numbers_2 F) (ce_rising_numbers_1 F) [3])) (lNil)))) (eLv 2)) (sSkip)
noncomputable def b_rising_numbers (F : Nat → FM) : MS := sSeq (sSetOwn 1 (fLst (lNil))) (sSeq (sFor (iV (eLv 0)) (gNm 2) (lp_rising_numbers_3 F)) (sFreeze 1 (sRet (eLv 1))))
abbrev s_tests_of : Stmt := top 25
def N_tests_of : List Str := ["rows", "found", "column", "cut", "yes", "no", "spread", "numbers", "label"]
theorem sc_tests_of : FnScope N_tests_of ["rows"] (defScope s_tests_of) := ⟨rfl, rfl, rfl, by decide +kernel, rfl, by decide +kernel, by decide +kernel⟩
noncomputable def ce_tests_of_1 (F : Nat → FM) : ME := eSub (eLv 7) (eLv 2)
noncomputable def lp_tests_of_2 (F : Nat → FM) : MS := sSeq (sAsg (eCall (F 16) 3 0 [0, 1, 2] [] (lCons (eLv 0) (lCons (eLv 2) (lCons (eLv 3) (lNil)))) (lNil)) (gSq 2 (gsCons (gNm 4) (gsCons (gNm 5) (gsNil))))) (sIf (tV (eCmp .NotEq (eLv 5) (eNew (fLst (lNil))))) (sSeq (sSet 6 (eCall (F 11) 3 0 [0, 1, 2] [] (lCons (eC (.str "plus")) (lCons (eCall (F 12) 1 0 [0] [] (lCons (eCall (F 13) 1 0 [0] [] (lCons (eLv 4) (lNil)) (lNil)) (lNil)) (lNil)) (lCons (eCall (F 12) 1 0 [0] [] (lCons (eCall (F 13) 1 0 [0] [] (lCons (eLv 5) (lNil)) (lNil)) (lNil)) (lNil)) (lNil)))) (lNil))) (sOwnApp 1 (eTup (lCons (eLv 6) (lCons (eLv 2) (lCons (eLv 3) (lNil))))))) (sSkip))
noncomputable def lp_tests_of_3 (F : Nat → FM) : MS := sFor (iV (eCall (F 17) 1 0 [0] [] (lCons (eNew (lComp (iV (eLv 0)) (gTp 2 (gsCons (gNm 7) (gsCons (gNm 8) (gsNil)))) (tTrue) (ce_tests_of_1 F) [7, 8])) (lNil)) (lNil))) (gNm 3) (lp_tests_of_2 F)
noncomputable def b_tests_of (F : Nat → FM) : MS := sSeq (sSetOwn 1 (fLst (lNil))) (sSeq (sFor (iRange1 (eBi oLen (lCons (eSub (eSub (eLv 0) (eC (.int 0))) (eC (.int 0))) (lNil)))) (gNm 2) (lp_tests_of_3 F)) (sFreeze 1 (sRet (eLv 1))))
abbrev s_best_test : Stmt := top 26
def N_best_test : List Str := ["rows", "best", "least", "spread", "column", "cut"]
theorem sc_best_test : FnScope N_best_test ["rows"] (defScope s_best_test) := ⟨rfl, rfl, rfl, by decide +kernel, rfl, by decide +kernel, by decide +kernel⟩
noncomputable def lp_best_test_1 (F : Nat → FM) : MS := sIf (tV (eCmp .Lt (eCall (F 6) 2 0 [0, 1] [] (lCons (eLv 3) (lCons (eLv 2) (lNil))) (lNil)) (eC (.int 0)))) (sPar 1 2 (lCons (eTup (lCons (eLv 4) (lCons (eLv 5) (lNil)))) (lCons (eLv 3) (lNil)))) (sSkip)
noncomputable def b_best_test (F : Nat → FM) : MS := sSeq (sPar 1 2 (lCons (eC .non) (lCons (eCall (F 12) 1 0 [0] [] (lCons (eCall (F 13) 1 0 [0] [] (lCons (eLv 0) (lNil)) (lNil)) (lNil)) (lNil)) (lNil)))) (sSeq (sFor (iV (eCall (F 18) 1 0 [0] [] (lCons (eLv 0) (lNil)) (lNil))) (gTp 3 (gsCons (gNm 3) (gsCons (gNm 4) (gsCons (gNm 5) (gsNil))))) (lp_best_test_1 F)) (sRet (eLv 1)))
abbrev s_tree_of : Stmt := top 27
def N_tree_of : List Str := ["rows", "deep", "test", "column", "cut", "yes", "no"]
theorem sc_tree_of : FnScope N_tree_of ["rows", "deep"] (defScope s_tree_of) := ⟨rfl, rfl, rfl, by decide +kernel, rfl, by decide +kernel, by decide +kernel⟩
noncomputable def b_tree_of (F : Nat → FM) : MS := sSeq (sSet 2 (eIf (tV (eCmp .Gt (eLv 1) (eC (.int 0)))) (eCall (F 19) 1 0 [0] [] (lCons (eLv 0) (lNil)) (lNil)) (eC .non))) (sSeq (sIf (tV (eCmp .Is (eLv 2) (eC .non))) (sRet (eCall (F 14) 1 0 [0] [] (lCons (eLv 0) (lNil)) (lNil))) (sSkip)) (sSeq (sAsg (eLv 2) (gSq 2 (gsCons (gNm 3) (gsCons (gNm 4) (gsNil))))) (sSeq (sAsg (eCall (F 16) 3 0 [0, 1, 2] [] (lCons (eLv 0) (lCons (eLv 3) (lCons (eLv 4) (lNil)))) (lNil)) (gSq 2 (gsCons (gNm 5) (gsCons (gNm 6) (gsNil))))) (sRet (eTup (lCons (eC v_TEST) (lCons (eLv 3) (lCons (eLv 4) (lCons (eCall (F 20) 1 1 [0, 1] [] (lCons (eLv 5) (lNil)) (lCons (eBin .Sub (eLv 1) (eC (.int 1))) (lNil))) (lCons (eCall (F 20) 1 1 [0, 1] [] (lCons (eLv 6) (lNil)) (lCons (eBin .Sub (eLv 1) (eC (.int 1))) (lNil))) (lNil)))))))))))
abbrev s_is_tree_on : Stmt := top 28
def N_is_tree_on : List Str := ["thing", "columns", "floors", "word", "rest", "column", "cut", "yes", "no"]
theorem sc_is_tree_on : FnScope N_is_tree_on ["thing", "columns", "floors"] (defScope s_is_tree_on) := ⟨rfl, rfl, rfl, by decide +kernel, rfl, by decide +kernel, by decide +kernel⟩
noncomputable def b_is_tree_on (F : Nat → FM) : MS := sSeq (sIf (tOr (tNot (tV (eIsi isTuple (eLv 0)))) (tOr (tV (eCmp .Eq (eLv 0) (eTup (lNil)))) (tNot (tV (eIsi isStr (eSub (eLv 0) (eC (.int 0)))))))) (sRet (eC (.bl false))) (sSkip)) (sSeq (sAsg (eLv 0) (gSt 1 2 (gsCons (gNm 3) (gsCons (gNm 4) (gsNil))))) (sSeq (sIf (tV (eCmp .Eq (eLv 3) (eC v_LEAF))) (sRet (eAnd (eCmp .Eq (eBi oLen (lCons (eLv 4) (lNil))) (eC (.int 1))) (eCall (F 5) 1 0 [0] [] (lCons (eSub (eLv 4) (eC (.int 0))) (lNil)) (lNil)))) (sSkip)) (sSeq (sIf (tOr (tV (eCmp .NotEq (eLv 3) (eC v_TEST))) (tOr (tV (eCmp .NotEq (eBi oLen (lCons (eLv 4) (lNil))) (eC (.int 4)))) (tV (eCmp .Eq (eLv 2) (eC (.int 0)))))) (sRet (eC (.bl false))) (sSkip)) (sSeq (sAsg (eLv 4) (gSq 4 (gsCons (gNm 5) (gsCons (gNm 6) (gsCons (gNm 7) (gsCons (gNm 8) (gsNil))))))) (sSeq (sIf (tOr (tNot (tV (eCall (F 2) 3 0 [0, 1, 2] [] (lCons (eLv 5) (lCons (eC (.int 0)) (lCons (eBin .Sub (eLv 1) (eC (.int 1))) (lNil)))) (lNil)))) (tNot (tV (eCall (F 5) 1 0 [0] [] (lCons (eLv 6) (lNil)) (lNil))))) (sRet (eC (.bl false))) (sSkip)) (sRet (eAnd (eCall (F 21) 3 0 [0, 1, 2] [] (lCons (eLv 7) (lCons (eLv 1) (lCons (eBin .Sub (eLv 2) (eC (.int 1))) (lNil)))) (lNil)) (eCall (F 21) 3 0 [0, 1, 2] [] (lCons (eLv 8) (lCons (eLv 1) (lCons (eBin .Sub (eLv 2) (eC (.int 1))) (lNil)))) (lNil)))))))))
abbrev s_is_tree : Stmt := top 29
def N_is_tree : List Str := ["thing", "columns"]
theorem sc_is_tree : FnScope N_is_tree ["thing", "columns"] (defScope s_is_tree) := ⟨rfl, rfl, rfl, by decide +kernel, rfl, by decide +kernel, by decide +kernel⟩
noncomputable def b_is_tree (F : Nat → FM) : MS := sRet (eCall (F 21) 3 0 [0, 1, 2] [] (lCons (eLv 0) (lCons (eLv 1) (lCons (eC v_MOST_FLOORS) (lNil)))) (lNil))
abbrev s_spread_in : Stmt := top 30
def N_spread_in : List Str := ["tree", "rows", "word", "rest", "column", "cut", "below", "parts", "one", "some"]
theorem sc_spread_in : FnScope N_spread_in ["tree", "rows"] (defScope s_spread_in) := ⟨rfl, rfl, rfl, by decide +kernel, rfl, by decide +kernel, by decide +kernel⟩
noncomputable def ce_spread_in_1 (F : Nat → FM) : ME := eCall (F 23) 2 0 [0, 1] [] (lCons (eLv 8) (lCons (eLv 9) (lNil))) (lNil)
noncomputable def b_spread_in (F : Nat → FM) : MS := sSeq (sAsg (eLv 0) (gSt 1 2 (gsCons (gNm 2) (gsCons (gNm 3) (gsNil))))) (sSeq (sIf (tV (eCmp .Eq (eLv 2) (eC v_LEAF))) (sRet (eCall (F 12) 1 0 [0] [] (lCons (eCall (F 13) 1 0 [0] [] (lCons (eLv 1) (lNil)) (lNil)) (lNil)) (lNil))) (sSkip)) (sSeq (sAsg (eLv 3) (gSt 2 3 (gsCons (gNm 4) (gsCons (gNm 5) (gsCons (gNm 6) (gsNil)))))) (sSeq (sSet 7 (eNew (lComp (iZipS (eLv 6) (eCall (F 16) 3 0 [0, 1, 2] [] (lCons (eLv 1) (lCons (eLv 4) (lCons (eLv 5) (lNil)))) (lNil))) (gTp 2 (gsCons (gNm 8) (gsCons (gNm 9) (gsNil)))) (tTrue) (ce_spread_in_1 F) [8, 9]))) (sRet (eCall (F 11) 3 0 [0, 1, 2] [] (lCons (eC (.str "plus")) (lCons (eSub (eLv 7) (eC (.int 0))) (lCons (eSub (eLv 7) (eC (.int 1))) (lNil)))) (lNil))))))
abbrev s_is_good : Stmt := top 31
def N_is_good : List Str := ["thing", "rows", "least", "spread", "column", "cut"]
theorem sc_is_good : FnScope N_is_good ["thing", "rows"] (defScope s_is_good) := ⟨rfl, rfl, rfl, by decide +kernel, rfl, by decide +kernel, by decide +kernel⟩
noncomputable def ce_is_good_1 (F : Nat → FM) : ME := eCmp .LtE (eCall (F 6) 2 0 [0, 1] [] (lCons (eLv 2) (lCons (eLv 3) (lNil))) (lNil)) (eC (.int 0))
noncomputable def b_is_good (F : Nat → FM) : MS := sSeq (sIf (tNot (tV (eCall (F 22) 2 0 [0, 1] [] (lCons (eLv 0) (lCons (eBi oLen (lCons (eSub (eSub (eLv 1) (eC (.int 0))) (eC (.int 0))) (lNil))) (lNil))) (lNil)))) (sRet (eC (.bl false))) (sSkip)) (sSeq (sSet 2 (eCall (F 23) 2 0 [0, 1] [] (lCons (eLv 0) (lCons (eLv 1) (lNil))) (lNil))) (sSeq (sIf (tV (eCmp .Gt (eCall (F 6) 2 0 [0, 1] [] (lCons (eLv 2) (lCons (eCall (F 12) 1 0 [0] [] (lCons (eCall (F 13) 1 0 [0] [] (lCons (eLv 1) (lNil)) (lNil)) (lNil)) (lNil)) (lNil))) (lNil)) (eC (.int 0)))) (sRet (eC (.bl false))) (sSkip)) (sRet (eBi oAll (lCons (eNew (lComp (iV (eCall (F 18) 1 0 [0] [] (lCons (eLv 1) (lNil)) (lNil))) (gTp 3 (gsCons (gNm 3) (gsCons (gNm 4) (gsCons (gNm 5) (gsNil))))) (tTrue) (ce_is_good_1 F) [3, 4, 5])) (lNil))))))
abbrev s__law_bag : Stmt := top 33
def N__law_bag : List Str := ["_law_script", "_law_at", "_law_great", "_law_prime"]
theorem sc__law_bag : FnScope N__law_bag ["_law_script", "_law_at"] (defScope s__law_bag) := ⟨rfl, rfl, rfl, by decide +kernel, rfl, by decide +kernel, by decide +kernel⟩
noncomputable def b__law_bag (F : Nat → FM) : MS := sSeq (sSet 2 (eC (.int 0))) (sSeq (sIf (tV (eCmp .Lt (eLv 1) (eBi oLen (lCons (eLv 0) (lNil))))) (sSet 2 (eBi oAbs (lCons (eSub (eLv 0) (eLv 1)) (lNil)))) (sSkip)) (sSeq (sSet 3 (eSub (eNew (fLst (lCons (eC (.int 2147483629)) (lCons (eC (.int 2147483587)) (lCons (eC (.int 2147483579)) (lCons (eC (.int 2147483563)) (lCons (eC (.int 2147483549)) (lCons (eC (.int 2147483543)) (lCons (eC (.int 2147483497)) (lCons (eC (.int 2147483489)) (lNil))))))))))) (eBin .Mod (eLv 1) (eC (.int 8))))) (sRet (eAlloc (fLst (lCons (eBin .Mult (eLv 2) (eBi oInt (lCons (eCmp .GtE (eLv 2) (eBin .Pow (eC (.int 10)) (eC (.int 18)))) (lNil)))) (lCons (eBin .Mod (eBin .Pow (eBin .Add (eBin .Add (eBin .Mod (eLv 2) (eC (.int 2147483647))) (eBin .Mult (eC (.int 104729)) (eLv 1))) (eC (.int 7))) (eC (.int 5))) (eLv 3)) (lCons (eLv 3) (lCons (eC (.int 0)) (lNil))))))))))
abbrev s__law_take : Stmt := top 34
def N__law_take : List Str := ["_law_bag_here", "_law_many", "_law_digit"]
theorem sc__law_take : FnScope N__law_take ["_law_bag_here", "_law_many"] (defScope s__law_take) := ⟨rfl, rfl, rfl, by decide +kernel, rfl, by decide +kernel, by decide +kernel⟩
noncomputable def b__law_take (F : Nat → FM) : MS := sSeq (sIf (tV (eCmp .Gt (eSub (eLv 0) (eC (.int 0))) (eC (.int 0)))) (sSeq (sSet 2 (eBin .Mod (eSub (eLv 0) (eC (.int 0))) (eLv 1))) (sSeq (sSetIx (eBin .FloorDiv (eSub (eLv 0) (eC (.int 0))) (eLv 1)) (eLv 0) (eC (.int 0))) (sRet (eLv 2)))) (sSkip)) (sSeq (sSetIx (eBin .Add (eSub (eLv 0) (eC (.int 3))) (eC (.int 1))) (eLv 0) (eC (.int 3))) (sSeq (sSetIx (eBin .Mod (eBin .Add (eBin .Add (eBin .Mult (eSub (eLv 0) (eC (.int 1))) (eC (.int 48271))) (eBin .Mult (eC (.int 7919)) (eSub (eLv 0) (eC (.int 3))))) (eC (.int 11))) (eSub (eLv 0) (eC (.int 2)))) (eLv 0) (eC (.int 1))) (sRet (eBin .Mod (eBin .Mod (eBin .Pow (eBin .FloorDiv (eSub (eLv 0) (eC (.int 1))) (eC (.int 8))) (eC (.int 3))) (eC (.int 2147483629))) (eLv 1)))))
abbrev s__law_ratio : Stmt := top 35
def N__law_ratio : List Str := ["_law_top", "_law_under", "_law_one", "_law_two"]
theorem sc__law_ratio : FnScope N__law_ratio ["_law_top", "_law_under"] (defScope s__law_ratio) := ⟨rfl, rfl, rfl, by decide +kernel, rfl, by decide +kernel, by decide +kernel⟩
noncomputable def wl__law_ratio_1 (F : Nat → FM) : MS := sPar 2 3 (lCons (eLv 3) (lCons (eBin .Mod (eLv 2) (eLv 3)) (lNil)))
noncomputable def wt__law_ratio_2 (F : Nat → FM) : MT := tV (eCmp .NotEq (eLv 3) (eC (.int 0)))
noncomputable def b__law_ratio (F : Nat → FM) : MS := sSeq (sPar 2 3 (lCons (eBi oAbs (lCons (eLv 0) (lNil))) (lCons (eLv 1) (lNil)))) (sSeq (sWhile (wt__law_ratio_2 F) (wl__law_ratio_1 F)) (sRet (eTup (lCons (eBin .FloorDiv (eLv 0) (eLv 2)) (lCons (eBin .FloorDiv (eLv 1) (eLv 2)) (lNil))))))
abbrev s__law_less : Stmt := top 36
def N__law_less : List Str := ["_law_one", "_law_two"]
theorem sc__law_less : FnScope N__law_less ["_law_one", "_law_two"] (defScope s__law_less) := ⟨rfl, rfl, rfl, by decide +kernel, rfl, by decide +kernel, by decide +kernel⟩
noncomputable def b__law_less (F : Nat → FM) : MS := sRet (eCmp .Lt (eBin .Mult (eSub (eLv 0) (eC (.int 0))) (eSub (eLv 1) (eC (.int 1)))) (eBin .Mult (eSub (eLv 1) (eC (.int 0))) (eSub (eLv 0) (eC (.int 1)))))
abbrev s__law_number : Stmt := top 37
def N__law_number : List Str := ["_law_bag_here", "_law_way"]
theorem sc__law_number : FnScope N__law_number ["_law_bag_here"] (defScope s__law_number) := ⟨rfl, rfl, rfl, by decide +kernel, rfl, by decide +kernel, by decide +kernel⟩
noncomputable def b__law_number (F : Nat → FM) : MS := sSeq (sSet 1 (eCall (F 26) 2 0 [0, 1] [] (lCons (eLv 0) (lCons (eC (.int 8)) (lNil))) (lNil))) (sSeq (sIf (tV (eCmp .Eq (eLv 1) (eC (.int 0)))) (sRet (eC .non)) (sSkip)) (sSeq (sIf (tV (eCmp .Lt (eLv 1) (eC (.int 5)))) (sRet (eSub (eNew (fLst (lCons (eTup (lCons (eC (.int 0)) (lCons (eC (.int 1)) (lNil)))) (lCons (eTup (lCons (eC (.int 1)) (lCons (eC (.int 1)) (lNil)))) (lCons (eTup (lCons (eNeg (eC (.int 1))) (lCons (eC (.int 1)) (lNil)))) (lCons (eTup (lCons (eC (.int 1)) (lCons (eC (.int 2)) (lNil)))) (lCons (eTup (lCons (eC (.int 3)) (lCons (eC (.int 2)) (lNil)))) (lCons (eTup (lCons (eNeg (eC (.int 2))) (lCons (eC (.int 1)) (lNil)))) (lCons (eTup (lCons (eC (.int 2)) (lCons (eC (.int 1)) (lNil)))) (lNil)))))))))) (eCall (F 26) 2 0 [0, 1] [] (lCons (eLv 0) (lCons (eC (.int 7)) (lNil))) (lNil)))) (sSkip)) (sRet (eCall (F 27) 2 0 [0, 1] [] (lCons (eBin .Sub (eCall (F 26) 2 0 [0, 1] [] (lCons (eLv 0) (lCons (eSub (eNew (fLst (lCons (eC (.int 21)) (lCons (eC (.int 2001)) (lCons (eBin .Add (eBin .Mult (eC (.int 2)) (eBin .Pow (eC (.int 10)) (eC (.int 6)))) (eC (.int 1))) (lNil)))))) (eBin .Sub (eLv 1) (eC (.int 5)))) (lNil))) (lNil)) (eSub (eNew (fLst (lCons (eC (.int 10)) (lCons (eC (.int 1000)) (lCons (eBin .Pow (eC (.int 10)) (eC (.int 6))) (lNil)))))) (eBin .Sub (eLv 1) (eC (.int 5))))) (lCons (eBin .Add (eC (.int 1)) (eCall (F 26) 2 0 [0, 1] [] (lCons (eLv 0) (lCons (eC (.int 40)) (lNil))) (lNil))) (lNil))) (lNil)))))
abbrev s__law_rows : Stmt := top 38
def N__law_rows : List Str := ["_law_bag_here", "_law_most", "_law_columns", "_law_way", "_law_found", "_law_turn", "_law_those", "_law_label", "_law_k"]
theorem sc__law_rows : FnScope N__law_rows ["_law_bag_here", "_law_most"] (defScope s__law_rows) := ⟨rfl, rfl, rfl, by decide +kernel, rfl, by decide +kernel, by decide +kernel⟩
noncomputable def ce__law_rows_1 (F : Nat → FM) : ME := eCall (F 29) 1 0 [0] [] (lCons (eLv 0) (lNil)) (lNil)
noncomputable def lp__law_rows_2 (F : Nat → FM) : MS := sSeq (sSet 6 (eBi oTuple (lCons (eNew (lComp (iRange1 (eLv 2)) (gNm 8) (tTrue) (ce__law_rows_1 F) [8])) (lNil)))) (sSeq (sSet 7 (eSub (eNew (fLst (lCons (eCall (F 26) 2 0 [0, 1] [] (lCons (eLv 0) (lCons (eC (.int 3)) (lNil))) (lNil)) (lCons (eBin .Sub (eCall (F 26) 2 0 [0, 1] [] (lCons (eLv 0) (lCons (eC (.int 2001)) (lNil))) (lNil)) (eC (.int 1000))) (lCons (eCall (F 26) 2 0 [0, 1] [] (lCons (eLv 0) (lCons (eC (.int 3)) (lNil))) (lNil)) (lNil)))))) (eLv 3))) (sSeq (sIf (tAnd (tV (eCmp .Eq (eLv 3) (eC (.int 2)))) (tV (eCmp .IsNot (eSub (eLv 6) (eC (.int 0))) (eC .non)))) (sSet 7 (eBin .Add (eLv 7) (eBin .Mult (eC (.int 7)) (eBi oInt (lCons (eCall (F 28) 2 0 [0, 1] [] (lCons (eTup (lCons (eC (.int 0)) (lCons (eC (.int 1)) (lNil)))) (lCons (eSub (eLv 6) (eC (.int 0))) (lNil))) (lNil)) (lNil)))))) (sSkip)) (sOwnApp 4 (eTup (lCons (eLv 6) (lCons (eLv 7) (lNil)))))))
noncomputable def b__law_rows (F : Nat → FM) : MS := sSeq (sSet 2 (eSub (eNew (fLst (lCons (eBin .Add (eC (.int 1)) (eCall (F 26) 2 0 [0, 1] [] (lCons (eLv 0) (lCons (eC (.int 3)) (lNil))) (lNil))) (lCons (eC (.int 8)) (lNil))))) (eBi oInt (lCons (eCmp .Eq (eCall (F 26) 2 0 [0, 1] [] (lCons (eLv 0) (lCons (eC (.int 8)) (lNil))) (lNil)) (eC (.int 0))) (lNil))))) (sSeq (sParOwn 3 4 (eCall (F 26) 2 0 [0, 1] [] (lCons (eLv 0) (lCons (eC (.int 3)) (lNil))) (lNil)) (fLst (lNil))) (sSeq (sFor (iRange1 (eBin .Add (eC (.int 1)) (eCall (F 26) 2 0 [0, 1] [] (lCons (eLv 0) (lCons (eLv 1) (lNil))) (lNil)))) (gNm 5) (lp__law_rows_2 F)) (sFreeze 4 (sRet (eLv 4)))))
abbrev s__law_spread : Stmt := top 39
def N__law_spread : List Str := ["_law_marks", "_law_label"]
theorem sc__law_spread : FnScope N__law_spread ["_law_marks"] (defScope s__law_spread) := ⟨rfl, rfl, rfl, by decide +kernel, rfl, by decide +kernel, by decide +kernel⟩
noncomputable def ce__law_spread_1 (F : Nat → FM) : ME := eBin .Mult (eLv 1) (eLv 1)
noncomputable def b__law_spread (F : Nat → FM) : MS := sSeq (sIf (tV (eCmp .Eq (eLv 0) (eNew (fLst (lNil))))) (sRet (eTup (lCons (eC (.int 0)) (lCons (eC (.int 1)) (lNil))))) (sSkip)) (sRet (eTup (lCons (eBin .Sub (eBin .Mult (eBi oLen (lCons (eLv 0) (lNil))) (eBi oSum (lCons (eNew (lComp (iV (eLv 0)) (gNm 1) (tTrue) (ce__law_spread_1 F) [1])) (lNil)))) (eBin .Pow (eBi oSum (lCons (eLv 0) (lNil))) (eC (.int 2)))) (lCons (eBi oLen (lCons (eLv 0) (lNil))) (lNil)))))
abbrev s__law_both : Stmt := top 40
def N__law_both : List Str := ["_law_one", "_law_two"]
theorem sc__law_both : FnScope N__law_both ["_law_one", "_law_two"] (defScope s__law_both) := ⟨rfl, rfl, rfl, by decide +kernel, rfl, by decide +kernel, by decide +kernel⟩
noncomputable def b__law_both (F : Nat → FM) : MS := sRet (eTup (lCons (eBin .Add (eBin .Mult (eSub (eLv 0) (eC (.int 0))) (eSub (eLv 1) (eC (.int 1)))) (eBin .Mult (eSub (eLv 1) (eC (.int 0))) (eSub (eLv 0) (eC (.int 1))))) (lCons (eBin .Mult (eSub (eLv 0) (eC (.int 1))) (eSub (eLv 1) (eC (.int 1)))) (lNil))))
abbrev s__law_cuts : Stmt := top 41
def N__law_cuts : List Str := ["_law_given", "_law_found", "_law_number_here", "_law_one"]
theorem sc__law_cuts : FnScope N__law_cuts ["_law_given"] (defScope s__law_cuts) := ⟨rfl, rfl, rfl, by decide +kernel, rfl, by decide +kernel, by decide +kernel⟩
noncomputable def ce__law_cuts_1 (F : Nat → FM) : ME := eLv 3
noncomputable def ct__law_cuts_2 (F : Nat → FM) : MT := tV (eCall (F 28) 2 0 [0, 1] [] (lCons (eLv 3) (lCons (eLv 2) (lNil))) (lNil))
noncomputable def lp__law_cuts_3 (F : Nat → FM) : MS := sIf (tAnd (tV (eCmp .IsNot (eLv 2) (eC .non))) (tBor 1 (tV (eCmp .NotIn (eLv 2) (eLv 1))))) (sOwnIns 1 (eBor 1 (eBi oLen (lCons (eNew (lComp (iV (eLv 1)) (gNm 3) (ct__law_cuts_2 F) (ce__law_cuts_1 F) [3])) (lNil)))) (eLv 2)) (sSkip)
noncomputable def b__law_cuts (F : Nat → FM) : MS := sSeq (sSetOwn 1 (fLst (lNil))) (sSeq (sFor (iV (eLv 0)) (gNm 2) (lp__law_cuts_3 F)) (sFreeze 1 (sRet (eLv 1))))
abbrev s__law_sides : Stmt := top 42
def N__law_sides : List Str := ["_law_lot", "_law_column", "_law_cut", "_law_yes_rows", "_law_no_rows", "_law_those", "_law_label", "_law_goes"]
theorem sc__law_sides : FnScope N__law_sides ["_law_lot", "_law_column", "_law_cut"] (defScope s__law_sides) := ⟨rfl, rfl, rfl, by decide +kernel, rfl, by decide +kernel, by decide +kernel⟩
noncomputable def lp__law_sides_1 (F : Nat → FM) : MS := sSeq (sSet 7 (eAnd (eCmp .IsNot (eSub (eLv 5) (eLv 1)) (eC .non)) (eNot (tV (eCall (F 28) 2 0 [0, 1] [] (lCons (eLv 2) (lCons (eSub (eLv 5) (eLv 1)) (lNil))) (lNil)))))) (sPickApp 4 3 (eBi oInt (lCons (eLv 7) (lNil))) (eTup (lCons (eLv 5) (lCons (eLv 6) (lNil)))))
noncomputable def b__law_sides (F : Nat → FM) : MS := sSeq (sParOwn2 3 4 (fLst (lNil)) (fLst (lNil))) (sSeq (sFor (iV (eLv 0)) (gTp 2 (gsCons (gNm 5) (gsCons (gNm 6) (gsNil)))) (lp__law_sides_1 F)) (sFreeze 3 (sFreeze 4 (sRet (eTup (lCons (eLv 3) (lCons (eLv 4) (lNil))))))))
abbrev s__law_labels : Stmt := top 43
def N__law_labels : List Str := ["_law_lot", "_law_those", "_law_label"]
theorem sc__law_labels : FnScope N__law_labels ["_law_lot"] (defScope s__law_labels) := ⟨rfl, rfl, rfl, by decide +kernel, rfl, by decide +kernel, by decide +kernel⟩
noncomputable def ce__law_labels_1 (F : Nat → FM) : ME := eLv 2
noncomputable def b__law_labels (F : Nat → FM) : MS := sRet (eNew (lComp (iV (eLv 0)) (gTp 2 (gsCons (gNm 1) (gsCons (gNm 2) (gsNil)))) (tTrue) (ce__law_labels_1 F) [1, 2]))
abbrev s__law_spread_of : Stmt := top 44
def N__law_spread_of : List Str := ["_law_lot"]
theorem sc__law_spread_of : FnScope N__law_spread_of ["_law_lot"] (defScope s__law_spread_of) := ⟨rfl, rfl, rfl, by decide +kernel, rfl, by decide +kernel, by decide +kernel⟩
noncomputable def b__law_spread_of (F : Nat → FM) : MS := sRet (eCall (F 12) 1 0 [0] [] (lCons (eCall (F 35) 1 0 [0] [] (lCons (eLv 0) (lNil)) (lNil)) (lNil)) (lNil))
abbrev s__law_test_spread : Stmt := top 45
def N__law_test_spread : List Str := ["_law_table", "_law_column", "_law_cut", "_law_yes_rows", "_law_no_rows"]
theorem sc__law_test_spread : FnScope N__law_test_spread ["_law_table", "_law_column", "_law_cut"] (defScope s__law_test_spread) := ⟨rfl, rfl, rfl, by decide +kernel, rfl, by decide +kernel, by decide +kernel⟩
noncomputable def b__law_test_spread (F : Nat → FM) : MS := sSeq (sAsg (eCall (F 34) 3 0 [0, 1, 2] [] (lCons (eLv 0) (lCons (eLv 1) (lCons (eLv 2) (lNil)))) (lNil)) (gSq 2 (gsCons (gNm 3) (gsCons (gNm 4) (gsNil))))) (sRet (eCall (F 32) 2 0 [0, 1] [] (lCons (eCall (F 36) 1 0 [0] [] (lCons (eLv 3) (lNil)) (lNil)) (lCons (eCall (F 36) 1 0 [0] [] (lCons (eLv 4) (lNil)) (lNil)) (lNil))) (lNil)))
abbrev s__law_least_right : Stmt := top 46
def N__law_least_right : List Str := ["_law_bag_here", "_law_table", "_law_told", "_law_least", "_law_column", "_law_cuts_here", "_law_cut", "_law_found", "_law_those", "_law_label", "_law_one"]
theorem sc__law_least_right : FnScope N__law_least_right ["_law_bag_here", "_law_table", "_law_told"] (defScope s__law_least_right) := ⟨rfl, rfl, rfl, by decide +kernel, rfl, by decide +kernel, by decide +kernel⟩
noncomputable def ce__law_least_right_1 (F : Nat → FM) : ME := eSub (eLv 8) (eLv 4)
noncomputable def ce__law_least_right_2 (F : Nat → FM) : ME := eTup (lCons (eBin .Add (eBin .Mult (eC (.int 2)) (eSub (eLv 10) (eC (.int 0)))) (eSub (eLv 10) (eC (.int 1)))) (lCons (eBin .Mult (eC (.int 2)) (eSub (eLv 10) (eC (.int 1)))) (lNil)))
noncomputable def lp__law_least_right_3 (F : Nat → FM) : MS := sSeq (sSet 7 (eCall (F 37) 3 0 [0, 1, 2] [] (lCons (eLv 1) (lCons (eLv 4) (lCons (eLv 6) (lNil)))) (lNil))) (sSeq (sIf (tV (eCall (F 28) 2 0 [0, 1] [] (lCons (eLv 7) (lCons (eLv 3) (lNil))) (lNil))) (sRet (eC (.bl false))) (sSkip)) (sIf (tAnd (tV (eCmp .Eq (eSub (eLv 2) (eC (.int 0))) (eC (.str "test")))) (tAnd (tV (eCmp .In (eLv 6) (eLv 5))) (tNot (tV (eCall (F 28) 2 0 [0, 1] [] (lCons (eLv 3) (lCons (eLv 7) (lNil))) (lNil)))))) (sIf (tOr (tV (eCmp .Lt (eLv 4) (eSub (eLv 2) (eC (.int 1))))) (tAnd (tV (eCmp .Eq (eLv 4) (eSub (eLv 2) (eC (.int 1))))) (tV (eCall (F 28) 2 0 [0, 1] [] (lCons (eLv 6) (lCons (eSub (eLv 2) (eC (.int 2))) (lNil))) (lNil))))) (sRet (eC (.bl false))) (sSkip)) (sSkip)))
noncomputable def lp__law_least_right_4 (F : Nat → FM) : MS := sSeq (sSet 5 (eCall (F 33) 1 0 [0] [] (lCons (eNew (lComp (iV (eLv 1)) (gTp 2 (gsCons (gNm 8) (gsCons (gNm 9) (gsNil)))) (tTrue) (ce__law_least_right_1 F) [8, 9])) (lNil)) (lNil))) (sFor (iV (eBin .Add (eBin .Add (eLv 5) (eNew (lComp (iV (eLv 5)) (gNm 10) (tTrue) (ce__law_least_right_2 F) [10]))) (eNew (fLst (lCons (eTup (lCons (eNeg (eBin .Pow (eC (.int 10)) (eC (.int 7)))) (lCons (eC (.int 1)) (lNil)))) (lCons (eTup (lCons (eC (.int 3)) (lCons (eC (.int 7)) (lNil)))) (lNil))))))) (gNm 6) (lp__law_least_right_3 F))
noncomputable def b__law_least_right (F : Nat → FM) : MS := sSeq (sSet 3 (eCall (F 31) 1 0 [0] [] (lCons (eCall (F 35) 1 0 [0] [] (lCons (eLv 1) (lNil)) (lNil)) (lNil)) (lNil))) (sSeq (sIf (tV (eCmp .Eq (eSub (eLv 2) (eC (.int 0))) (eC (.str "test")))) (sSet 3 (eCall (F 37) 3 0 [0, 1, 2] [] (lCons (eLv 1) (lCons (eSub (eLv 2) (eC (.int 1))) (lCons (eSub (eLv 2) (eC (.int 2))) (lNil)))) (lNil))) (sSkip)) (sSeq (sFor (iRange1 (eBi oLen (lCons (eSub (eSub (eLv 1) (eC (.int 0))) (eC (.int 0))) (lNil)))) (gNm 4) (lp__law_least_right_4 F)) (sRet (eOr (eCmp .Eq (eSub (eLv 2) (eC (.int 0))) (eC (.str "leaf"))) (eCall (F 28) 2 0 [0, 1] [] (lCons (eLv 3) (lCons (eCall (F 31) 1 0 [0] [] (lCons (eCall (F 35) 1 0 [0] [] (lCons (eLv 1) (lNil)) (lNil)) (lNil)) (lNil)) (lNil))) (lNil))))))
abbrev s__law_good : Stmt := top 47
def N__law_good : List Str := ["_law_bag_here", "_law_table", "_law_told", "_law_parts", "_law_lot", "_law_some"]
theorem sc__law_good : FnScope N__law_good ["_law_bag_here", "_law_table"] (defScope s__law_good) := ⟨rfl, rfl, rfl, by decide +kernel, rfl, by decide +kernel, by decide +kernel⟩
noncomputable def ce__law_good_1 (F : Nat → FM) : ME := eCall (F 35) 1 0 [0] [] (lCons (eLv 4) (lNil)) (lNil)
noncomputable def ce__law_good_2 (F : Nat → FM) : ME := eTup (lCons (eC (.str "leaf")) (lCons (eCall (F 27) 2 0 [0, 1] [] (lCons (eBi oSum (lCons (eLv 5) (lNil))) (lCons (eBi oLen (lCons (eLv 5) (lNil))) (lNil))) (lNil)) (lNil)))
noncomputable def b__law_good (F : Nat → FM) : MS := sSeq (sSet 2 (eCall (F 20) 1 1 [0, 1] [] (lCons (eLv 1) (lNil)) (lCons (eC (.int 1)) (lNil)))) (sSeq (sIf (tOr (tNot (tV (eCall (F 38) 3 0 [0, 1, 2] [] (lCons (eLv 0) (lCons (eLv 1) (lCons (eLv 2) (lNil)))) (lNil)))) (tV (eIsB .IsNot (eCall (F 24) 2 0 [0, 1] [] (lCons (eLv 2) (lCons (eLv 1) (lNil))) (lNil)) (eC (.bl true))))) (sRet (eC (.bl false))) (sSkip)) (sSeq (sIf (tV (eCmp .Eq (eSub (eLv 2) (eC (.int 0))) (eC (.str "leaf")))) (sRet (eCmp .Eq (eLv 2) (eTup (lCons (eC (.str "leaf")) (lCons (eCall (F 27) 2 0 [0, 1] [] (lCons (eBi oSum (lCons (eCall (F 35) 1 0 [0] [] (lCons (eLv 1) (lNil)) (lNil)) (lNil))) (lCons (eBi oLen (lCons (eLv 1) (lNil))) (lNil))) (lNil)) (lNil)))))) (sSkip)) (sSeq (sSet 3 (eNew (lComp (iV (eCall (F 34) 3 0 [0, 1, 2] [] (lCons (eLv 1) (lCons (eSub (eLv 2) (eC (.int 1))) (lCons (eSub (eLv 2) (eC (.int 2))) (lNil)))) (lNil))) (gNm 4) (tTrue) (ce__law_good_1 F) [4]))) (sSeq (sIf (tOr (tV (eCmp .NotEq (eSub (eLv 2) (eC (.int 0))) (eC (.str "test")))) (tOr (tV (eCmp .NotEq (eBi oLen (lCons (eLv 2) (lNil))) (eC (.int 5)))) (tV (eCmp .In (eNew (fLst (lNil))) (eLv 3))))) (sRet (eC (.bl false))) (sSkip)) (sRet (eCmp .Eq (eNew (lBi oListF (lCons (eCut (eLv 2) (oSome (eC (.int 3))) (oNone)) (lNil)))) (eNew (lComp (iV (eLv 3)) (gNm 5) (tTrue) (ce__law_good_2 F) [5]))))))))
abbrev s_law : Stmt := top 48
def N_law : List Str := ["_law_script", "_law_k", "_law_bag_here", "_law_turn", "_law_table", "_law_marks", "_law_found", "_law_due"]
theorem sc_law : FnScope N_law ["_law_script"] (defScope s_law) := ⟨rfl, rfl, rfl, by decide +kernel, rfl, by decide +kernel, by decide +kernel⟩
noncomputable def lp_law_1 (F : Nat → FM) : MS := sSeq (sSet 4 (eCall (F 30) 2 0 [0, 1] [] (lCons (eLv 2) (lCons (eC (.int 14)) (lNil))) (lNil))) (sSeq (sSet 5 (eCall (F 35) 1 0 [0] [] (lCons (eLv 4) (lNil)) (lNil))) (sSeq (sPar 6 7 (lCons (eCall (F 12) 1 0 [0] [] (lCons (eLv 5) (lNil)) (lNil)) (lCons (eCall (F 31) 1 0 [0] [] (lCons (eLv 5) (lNil)) (lNil)) (lNil)))) (sSeq (sIf (tOr (tV (eCmp .NotEq (eBi oRepr (lCons (eLv 6) (lNil))) (eBi oRepr (lCons (eCall (F 27) 2 0 [0, 1] [] (lCons (eSub (eLv 7) (eC (.int 0))) (lCons (eSub (eLv 7) (eC (.int 1))) (lNil))) (lNil)) (lNil))))) (tV (eCmp .NotEq (eCall (F 12) 0 1 [0] [] (lNil) (lCons (eNew (lBi oListF (lCons (eLv 5) (lNil)))) (lNil))) (eLv 6)))) (sRet (eC (.bl false))) (sSkip)) (sIf (tOr (tNot (tV (eCall (F 39) 2 0 [0, 1] [] (lCons (eLv 2) (lCons (eLv 4) (lNil))) (lNil)))) (tOr (tNot (tV (eCall (F 39) 2 0 [0, 1] [] (lCons (eLv 2) (lCons (eBin .Mult (eCut (eLv 4) (oNone) (oSome (eC (.int 1)))) (eC (.int 3))) (lNil))) (lNil)))) (tNot (tV (eCall (F 39) 2 0 [0, 1] [] (lCons (eLv 2) (lCons (eCut (eLv 4) (oNone) (oSome (eC (.int 2)))) (lNil))) (lNil)))))) (sRet (eC (.bl false))) (sSkip)))))
noncomputable def lp_law_2 (F : Nat → FM) : MS := sSeq (sSet 2 (eCall (F 25) 2 0 [0, 1] [] (lCons (eLv 0) (lCons (eLv 1) (lNil))) (lNil))) (sFor (iRange1 (eC (.int 3))) (gNm 3) (lp_law_1 F))
noncomputable def b_law (F : Nat → FM) : MS := sSeq (sFor (iRange1 (eBi oMax (lCons (eC (.int 2)) (lCons (eBi oMin (lCons (eC (.int 4)) (lCons (eBi oLen (lCons (eLv 0) (lNil))) (lNil)))) (lNil))))) (gNm 1) (lp_law_2 F)) (sRet (eAnd (eCmp .Eq (eCall (F 12) 1 0 [0] [] (lCons (eNew (fLst (lNil))) (lNil)) (lNil)) (eTup (lCons (eC (.int 0)) (lCons (eC (.int 1)) (lNil))))) (eAnd (eCmp .Eq (eCall (F 12) 1 0 [0] [] (lCons (eNew (fLst (lCons (eC (.int 5)) (lNil)))) (lNil)) (lNil)) (eTup (lCons (eC (.int 0)) (lCons (eC (.int 1)) (lNil))))) (eCmp .Eq (eCall (F 12) 1 0 [0] [] (lCons (eNew (fLst (lCons (eC (.int 0)) (lCons (eC (.int 1)) (lNil))))) (lNil)) (lNil)) (eTup (lCons (eC (.int 1)) (lCons (eC (.int 2)) (lNil))))))))
noncomputable def tab : Nat → Nat → FM
  | 0, _ => fun _ _ => .bad
  | k + 1, 1 => mFun 1 1 (b_is_whole (tab k))
  | k + 1, 2 => mFun 3 3 (b_is_within (tab k))
  | k + 1, 3 => mFun 2 2 (b_common_part (tab k))
  | k + 1, 4 => mFun 2 3 (b_lowest (tab k))
  | k + 1, 5 => mFun 1 1 (b_is_ratio (tab k))
  | k + 1, 6 => mFun 2 4 (b_held (tab k))
  | k + 1, 7 => mFun 2 2 (b_ratio_plus (tab k))
  | k + 1, 8 => mFun 2 2 (b_ratio_minus (tab k))
  | k + 1, 9 => mFun 2 2 (b_ratio_times (tab k))
  | k + 1, 10 => mFun 2 2 (b_ratio_over (tab k))
  | k + 1, 11 => mFun 3 4 (b_worked (tab k))
  | k + 1, 12 => mFun 1 3 (b_spread_of (tab k))
  | k + 1, 13 => mFun 1 3 (b_labels_of (tab k))
  | k + 1, 14 => mFun 1 2 (b_leaf_of (tab k))
  | k + 1, 15 => mFun 3 3 (b_is_yes (tab k))
  | k + 1, 16 => mFun 3 5 (b_rows_parted (tab k))
  | k + 1, 17 => mFun 1 4 (b_rising_numbers (tab k))
  | k + 1, 18 => mFun 1 9 (b_tests_of (tab k))
  | k + 1, 19 => mFun 1 6 (b_best_test (tab k))
  | k + 1, 20 => mFun 2 7 (b_tree_of (tab k))
  | k + 1, 21 => mFun 3 9 (b_is_tree_on (tab k))
  | k + 1, 22 => mFun 2 2 (b_is_tree (tab k))
  | k + 1, 23 => mFun 2 10 (b_spread_in (tab k))
  | k + 1, 24 => mFun 2 6 (b_is_good (tab k))
  | k + 1, 25 => mFun 2 4 (b__law_bag (tab k))
  | k + 1, 26 => mFun 2 3 (b__law_take (tab k))
  | k + 1, 27 => mFun 2 4 (b__law_ratio (tab k))
  | k + 1, 28 => mFun 2 2 (b__law_less (tab k))
  | k + 1, 29 => mFun 1 2 (b__law_number (tab k))
  | k + 1, 30 => mFun 2 9 (b__law_rows (tab k))
  | k + 1, 31 => mFun 1 2 (b__law_spread (tab k))
  | k + 1, 32 => mFun 2 2 (b__law_both (tab k))
  | k + 1, 33 => mFun 1 4 (b__law_cuts (tab k))
  | k + 1, 34 => mFun 3 8 (b__law_sides (tab k))
  | k + 1, 35 => mFun 1 3 (b__law_labels (tab k))
  | k + 1, 36 => mFun 1 1 (b__law_spread_of (tab k))
  | k + 1, 37 => mFun 3 5 (b__law_test_spread (tab k))
  | k + 1, 38 => mFun 3 11 (b__law_least_right (tab k))
  | k + 1, 39 => mFun 2 6 (b__law_good (tab k))
  | k + 1, 40 => mFun 1 8 (b_law (tab k))
  | _ + 1, _ => fun _ _ => .bad
structure Ev (c : Cn) (F : Nat → FM) : Prop where
  z_abs : c.M.mg "abs" = none
  z_all : c.M.mg "all" = none
  z_bool : c.M.mg "bool" = none
  z_int : c.M.mg "int" = none
  z_isinstance : c.M.mg "isinstance" = none
  z_len : c.M.mg "len" = none
  z_list : c.M.mg "list" = none
  z_max : c.M.mg "max" = none
  z_min : c.M.mg "min" = none
  z_range : c.M.mg "range" = none
  z_repr : c.M.mg "repr" = none
  z_str : c.M.mg "str" = none
  z_sum : c.M.mg "sum" = none
  z_tuple : c.M.mg "tuple" = none
  z_zip : c.M.mg "zip" = none
  cf__law_bag_2 : CF c "_law_bag" (F 25) 2 [] [0, 1] []
  cf__law_both_2 : CF c "_law_both" (F 32) 2 [] [0, 1] []
  cf__law_cuts_1 : CF c "_law_cuts" (F 33) 1 [] [0] []
  cf__law_good_2 : CF c "_law_good" (F 39) 2 [] [0, 1] []
  cf__law_labels_1 : CF c "_law_labels" (F 35) 1 [] [0] []
  cf__law_least_right_3 : CF c "_law_least_right" (F 38) 3 [] [0, 1, 2] []
  cf__law_less_2 : CF c "_law_less" (F 28) 2 [] [0, 1] []
  cf__law_number_1 : CF c "_law_number" (F 29) 1 [] [0] []
  cf__law_ratio_2 : CF c "_law_ratio" (F 27) 2 [] [0, 1] []
  cf__law_rows_2 : CF c "_law_rows" (F 30) 2 [] [0, 1] []
  cf__law_sides_3 : CF c "_law_sides" (F 34) 3 [] [0, 1, 2] []
  cf__law_spread_1 : CF c "_law_spread" (F 31) 1 [] [0] []
  cf__law_spread_of_1 : CF c "_law_spread_of" (F 36) 1 [] [0] []
  cf__law_take_2 : CF c "_law_take" (F 26) 2 [] [0, 1] []
  cf__law_test_spread_3 : CF c "_law_test_spread" (F 37) 3 [] [0, 1, 2] []
  cf_best_test_1 : CF c "best_test" (F 19) 1 [] [0] []
  cf_common_part_2 : CF c "common_part" (F 3) 2 [] [0, 1] []
  cf_held_2 : CF c "held" (F 6) 2 [] [0, 1] []
  cf_is_good_2 : CF c "is_good" (F 24) 2 [] [0, 1] []
  cf_is_ratio_1 : CF c "is_ratio" (F 5) 1 [] [0] []
  cf_is_tree_2 : CF c "is_tree" (F 22) 2 [] [0, 1] []
  cf_is_tree_on_3 : CF c "is_tree_on" (F 21) 3 [] [0, 1, 2] []
  cf_is_whole_1 : CF c "is_whole" (F 1) 1 [] [0] []
  cf_is_within_3 : CF c "is_within" (F 2) 3 [] [0, 1, 2] []
  cf_is_yes_3 : CF c "is_yes" (F 15) 3 [] [0, 1, 2] []
  cf_labels_of_1 : CF c "labels_of" (F 13) 1 [] [0] []
  cf_leaf_of_1 : CF c "leaf_of" (F 14) 1 [] [0] []
  cf_lowest_2 : CF c "lowest" (F 4) 2 [] [0, 1] []
  cf_ratio_plus_2 : CF c "ratio_plus" (F 7) 2 [] [0, 1] []
  cf_rising_numbers_1 : CF c "rising_numbers" (F 17) 1 [] [0] []
  cf_rows_parted_3 : CF c "rows_parted" (F 16) 3 [] [0, 1, 2] []
  cf_spread_in_2 : CF c "spread_in" (F 23) 2 [] [0, 1] []
  cf_spread_of_0_labels : CF c "spread_of" (F 12) 0 ["labels"] [0] []
  cf_spread_of_1 : CF c "spread_of" (F 12) 1 [] [0] []
  cf_tests_of_1 : CF c "tests_of" (F 18) 1 [] [0] []
  cf_tree_of_1_deep : CF c "tree_of" (F 20) 1 ["deep"] [0, 1] []
  cf_worked_3 : CF c "worked" (F 11) 3 [] [0, 1, 2] []
  t_WORKS : TF c "WORKS" t_WORKS
  c_LEAF : KC c "LEAF" v_LEAF
  c_MOST_FLOORS : KC c "MOST_FLOORS" v_MOST_FLOORS
  c_NOUGHT : KC c "NOUGHT" v_NOUGHT
  c_TEST : KC c "TEST" v_TEST
  vf2 : VF c F okV2 2
section
variable {c : Cn} {F : Nat → FM} {X : Cx}
theorem d_is_whole (E : Ev c F) (o : OkX c N_is_whole (defScope s_is_whole) allT X) : SSs c.M W0 X (defBody s_is_whole) (b_is_whole F) :=
  ss_one (ss_ret (se_and (w_isi o isiK_int bt_int (by decide +kernel) E.z_isinstance (by decide +kernel) E.z_int (w_lv o 0 (by decide +kernel)) rfl) (se_one (se_not (w_isi o isiK_bool bt_bool (by decide +kernel) E.z_isinstance (by decide +kernel) E.z_bool (w_lv o 0 (by decide +kernel)) rfl)))))
theorem d_is_within (E : Ev c F) (o : OkX c N_is_within (defScope s_is_within) allT X) : SSs c.M W0 X (defBody s_is_within) (b_is_within F) :=
  ss_one (ss_ret (se_and (w_call o E.cf_is_whole_1 (by decide +kernel) (sa_cons (w_lv o 0 (by decide +kernel)) (sa_nil) rfl) (sk_nil) rfl rfl) (se_one (w_chain o (w_lv o 1 (by decide +kernel)) (w_lv o 0 (by decide +kernel)) (w_lv o 2 (by decide +kernel)) rfl))))
theorem d_common_part (E : Ev c F) (o : OkX c N_common_part (defScope s_common_part) allT X) : SSs c.M W0 X (defBody s_common_part) (b_common_part F) :=
  ss_cons (w_par2 o 0 1 (by decide +kernel) (by decide +kernel) (by decide) (by decide +kernel) (by decide +kernel) (sa_cons (w_bi o abs_ok bt_abs (by decide +kernel) E.z_abs (sa_cons (w_lv o 0 (by decide +kernel)) (sa_nil) rfl) rfl rfl) (sa_cons (w_bi o abs_ok bt_abs (by decide +kernel) E.z_abs (sa_cons (w_lv o 1 (by decide +kernel)) (sa_nil) rfl) rfl rfl) (sa_nil) rfl) rfl) rfl (by decide +kernel)) (ss_cons (w_while o (w_tcmp o (w_lv o 1 (by decide +kernel)) (se_int) (nomark _)) (ss_one (w_par2 o 0 1 (by decide +kernel) (by decide +kernel) (by decide) (by decide +kernel) (by decide +kernel) (sa_cons (w_lv o 1 (by decide +kernel)) (sa_cons (w_bin o (w_lv o 0 (by decide +kernel)) (w_bin o (w_bin o (w_lv o 0 (by decide +kernel)) (w_lv o 1 (by decide +kernel))) (w_lv o 1 (by decide +kernel)))) (sa_nil) rfl) rfl) rfl (by decide +kernel)))) (ss_one (ss_ret (w_lv o 0 (by decide +kernel)))))
theorem d_lowest (E : Ev c F) (o : OkX c N_lowest (defScope s_lowest) allT X) : SSs c.M W0 X (defBody s_lowest) (b_lowest F) :=
  ss_cons (w_set o 2 (by decide +kernel) (w_call o E.cf_common_part_2 (by decide +kernel) (sa_cons (w_lv o 0 (by decide +kernel)) (sa_cons (w_lv o 1 (by decide +kernel)) (sa_nil) rfl) rfl) (sk_nil) rfl rfl) rfl) (ss_cons (ss_if (w_tcmp o (w_lv o 1 (by decide +kernel)) (se_int) (nomark _)) (ss_one (w_set o 2 (by decide +kernel) (w_neg o (w_lv o 2 (by decide +kernel))) rfl)) (ss_nil)) (ss_one (ss_ret (se_tup (sa_cons (w_bin o (w_lv o 0 (by decide +kernel)) (w_lv o 2 (by decide +kernel))) (sa_cons (w_bin o (w_lv o 1 (by decide +kernel)) (w_lv o 2 (by decide +kernel))) (sa_nil) rfl) rfl)))))
theorem d_is_ratio (E : Ev c F) (o : OkX c N_is_ratio (defScope s_is_ratio) allT X) : SSs c.M W0 X (defBody s_is_ratio) (b_is_ratio F) :=
  ss_cons (ss_if (SW.st (sw_or (st_not (st_val (w_isi o isiK_tuple bt_tuple (by decide +kernel) E.z_isinstance (by decide +kernel) E.z_tuple (w_lv o 0 (by decide +kernel)) rfl) (fun _ => rfl))) (sw_or (w_tcmp o (w_bi o (len_ok o.g) bt_len (by decide +kernel) E.z_len (sa_cons (w_lv o 0 (by decide +kernel)) (sa_nil) rfl) rfl rfl) (se_int) (nomark _)) (sw_or (st_not (st_val (w_call o E.cf_is_whole_1 (by decide +kernel) (sa_cons (w_sub o (w_lv o 0 (by decide +kernel)) (se_int) (fun _ _ => rfl)) (sa_nil) rfl) (sk_nil) rfl rfl) (fun _ => rfl))) (sw_or1 (st_not (st_val (w_call o E.cf_is_whole_1 (by decide +kernel) (sa_cons (w_sub o (w_lv o 0 (by decide +kernel)) (se_int) (fun _ _ => rfl)) (sa_nil) rfl) (sk_nil) rfl rfl) (fun _ => rfl)))))))) (ss_one (ss_ret (se_bl))) (ss_nil)) (ss_one (ss_ret (se_and (w_cmp o (w_sub o (w_lv o 0 (by decide +kernel)) (se_int) (fun _ _ => rfl)) (se_int) (nomark _)) (se_one (w_cmp o (w_call o E.cf_common_part_2 (by decide +kernel) (sa_cons (w_sub o (w_lv o 0 (by decide +kernel)) (se_int) (fun _ _ => rfl)) (sa_cons (w_sub o (w_lv o 0 (by decide +kernel)) (se_int) (fun _ _ => rfl)) (sa_nil) rfl) rfl) (sk_nil) rfl rfl) (se_int) (nomark _))))))
theorem d_held (E : Ev c F) (o : OkX c N_held (defScope s_held) allT X) : SSs c.M W0 X (defBody s_held) (b_held F) :=
  ss_cons (w_par2 o 2 3 (by decide +kernel) (by decide +kernel) (by decide) (by decide +kernel) (by decide +kernel) (sa_cons (w_bin o (w_sub o (w_lv o 0 (by decide +kernel)) (se_int) (fun _ _ => rfl)) (w_sub o (w_lv o 1 (by decide +kernel)) (se_int) (fun _ _ => rfl))) (sa_cons (w_bin o (w_sub o (w_lv o 1 (by decide +kernel)) (se_int) (fun _ _ => rfl)) (w_sub o (w_lv o 0 (by decide +kernel)) (se_int) (fun _ _ => rfl))) (sa_nil) rfl) rfl) rfl (by decide +kernel)) (ss_one (ss_ret (se_ife (w_tcmp o (w_lv o 2 (by decide +kernel)) (w_lv o 3 (by decide +kernel)) (nomark _)) (w_neg o (se_int)) (w_ty o int_ok bt_int (by decide +kernel) E.z_int (sa_cons (w_cmp o (w_lv o 2 (by decide +kernel)) (w_lv o 3 (by decide +kernel)) (nomark _)) (sa_nil) rfl) rfl rfl))))
theorem d_ratio_plus (E : Ev c F) (o : OkX c N_ratio_plus (defScope s_ratio_plus) allT X) : SSs c.M W0 X (defBody s_ratio_plus) (b_ratio_plus F) :=
  ss_one (ss_ret (w_call o E.cf_lowest_2 (by decide +kernel) (sa_cons (w_bin o (w_bin o (w_sub o (w_lv o 0 (by decide +kernel)) (se_int) (fun _ _ => rfl)) (w_sub o (w_lv o 1 (by decide +kernel)) (se_int) (fun _ _ => rfl))) (w_bin o (w_sub o (w_lv o 1 (by decide +kernel)) (se_int) (fun _ _ => rfl)) (w_sub o (w_lv o 0 (by decide +kernel)) (se_int) (fun _ _ => rfl)))) (sa_cons (w_bin o (w_sub o (w_lv o 0 (by decide +kernel)) (se_int) (fun _ _ => rfl)) (w_sub o (w_lv o 1 (by decide +kernel)) (se_int) (fun _ _ => rfl))) (sa_nil) rfl) rfl) (sk_nil) rfl rfl))
theorem d_ratio_minus (E : Ev c F) (o : OkX c N_ratio_minus (defScope s_ratio_minus) allT X) : SSs c.M W0 X (defBody s_ratio_minus) (b_ratio_minus F) :=
  ss_one (ss_ret (w_call o E.cf_ratio_plus_2 (by decide +kernel) (sa_cons (w_lv o 0 (by decide +kernel)) (sa_cons (se_tup (sa_cons (w_neg o (w_sub o (w_lv o 1 (by decide +kernel)) (se_int) (fun _ _ => rfl))) (sa_cons (w_sub o (w_lv o 1 (by decide +kernel)) (se_int) (fun _ _ => rfl)) (sa_nil) rfl) rfl)) (sa_nil) rfl) rfl) (sk_nil) rfl rfl))
theorem d_ratio_times (E : Ev c F) (o : OkX c N_ratio_times (defScope s_ratio_times) allT X) : SSs c.M W0 X (defBody s_ratio_times) (b_ratio_times F) :=
  ss_one (ss_ret (w_call o E.cf_lowest_2 (by decide +kernel) (sa_cons (w_bin o (w_sub o (w_lv o 0 (by decide +kernel)) (se_int) (fun _ _ => rfl)) (w_sub o (w_lv o 1 (by decide +kernel)) (se_int) (fun _ _ => rfl))) (sa_cons (w_bin o (w_sub o (w_lv o 0 (by decide +kernel)) (se_int) (fun _ _ => rfl)) (w_sub o (w_lv o 1 (by decide +kernel)) (se_int) (fun _ _ => rfl))) (sa_nil) rfl) rfl) (sk_nil) rfl rfl))
theorem d_ratio_over (E : Ev c F) (o : OkX c N_ratio_over (defScope s_ratio_over) allT X) : SSs c.M W0 X (defBody s_ratio_over) (b_ratio_over F) :=
  ss_one (ss_ret (se_ife (w_tcmp o (w_sub o (w_lv o 1 (by decide +kernel)) (se_int) (fun _ _ => rfl)) (se_int) (nomark _)) (se_non) (w_call o E.cf_lowest_2 (by decide +kernel) (sa_cons (w_bin o (w_sub o (w_lv o 0 (by decide +kernel)) (se_int) (fun _ _ => rfl)) (w_sub o (w_lv o 1 (by decide +kernel)) (se_int) (fun _ _ => rfl))) (sa_cons (w_bin o (w_sub o (w_lv o 0 (by decide +kernel)) (se_int) (fun _ _ => rfl)) (w_sub o (w_lv o 1 (by decide +kernel)) (se_int) (fun _ _ => rfl))) (sa_nil) rfl) rfl) (sk_nil) rfl rfl)))
theorem d_worked (E : Ev c F) (o : OkX c N_worked (defScope s_worked) allT X) : SSs c.M W0 X (defBody s_worked) (b_worked F) :=
  ss_cons (ss_if (w_tcmp o (w_lv o 0 (by decide +kernel)) (se_str) (nomark _)) (ss_one (ss_ret (se_ife (w_tcmp o (w_lv o 1 (by decide +kernel)) (se_non) (nomark _)) (w_lv o 2 (by decide +kernel)) (w_lv o 1 (by decide +kernel))))) (ss_nil)) (ss_cons (ss_if (SW.st (sw_or (w_tcmp o (w_lv o 1 (by decide +kernel)) (se_non) (nomark _)) (sw_or1 (w_tcmp o (w_lv o 2 (by decide +kernel)) (se_non) (nomark _))))) (ss_one (ss_ret (se_non))) (ss_nil)) (ss_cons (w_set o 3 (by decide +kernel) (w_tab o E.t_WORKS (by decide +kernel) (w_lv o 0 (by decide +kernel)) (fun _ _ => rfl)) rfl) (ss_one (ss_ret (w_callV o E.vf2 3 (by decide +kernel) (sa_cons (w_lv o 1 (by decide +kernel)) (sa_cons (w_lv o 2 (by decide +kernel)) (sa_nil) rfl) rfl) rfl rfl)))))
theorem d_spread_of (E : Ev c F) (o : OkX c N_spread_of (defScope s_spread_of) allT X) : SSs c.M W0 X (defBody s_spread_of) (b_spread_of F) :=
  ss_cons (ss_if (w_tcmp o (w_bi o (len_ok o.g) bt_len (by decide +kernel) E.z_len (sa_cons (w_lv o 0 (by decide +kernel)) (sa_nil) rfl) rfl rfl) (se_int) (nomark _)) (ss_one (ss_ret (w_const o E.c_NOUGHT (by decide +kernel)))) (ss_nil)) (ss_cons (w_set o 1 (by decide +kernel) (w_bi o (sum_ok o.g) bt_sum (by decide +kernel) E.z_sum (sa_cons (w_lv o 0 (by decide +kernel)) (sa_nil) rfl) rfl rfl) rfl) (ss_one (ss_ret (w_call o E.cf_lowest_2 (by decide +kernel) (sa_cons (w_bin o (w_bin o (w_bi o (len_ok o.g) bt_len (by decide +kernel) E.z_len (sa_cons (w_lv o 0 (by decide +kernel)) (sa_nil) rfl) rfl rfl) (w_bi o (sum_ok o.g) bt_sum (by decide +kernel) E.z_sum (sa_cons (se_new (w_comp o [("label", 2)] (by decide +kernel) (w_ival o (w_lv o 0 (by decide +kernel))) (fun _ o => w_name o 2 (by decide +kernel)) (fun _ o => sts_nil) (fun _ o => w_bin o (w_lv o 2 (by decide +kernel)) (w_lv o 2 (by decide +kernel))) rfl (fun _ => rfl))) (sa_nil) rfl) rfl rfl)) (w_bin o (w_lv o 1 (by decide +kernel)) (w_lv o 1 (by decide +kernel)))) (sa_cons (w_bi o (len_ok o.g) bt_len (by decide +kernel) E.z_len (sa_cons (w_lv o 0 (by decide +kernel)) (sa_nil) rfl) rfl rfl) (sa_nil) rfl) rfl) (sk_nil) rfl rfl))))
theorem d_labels_of (E : Ev c F) (o : OkX c N_labels_of (defScope s_labels_of) allT X) : SSs c.M W0 X (defBody s_labels_of) (b_labels_of F) :=
  ss_one (ss_ret (se_new (w_comp o [("numbers", 1), ("label", 2)] (by decide +kernel) (w_ival o (w_lv o 0 (by decide +kernel))) (fun _ o => w_tup o (sgs_cons (w_name o 1 (by decide +kernel)) (sgs_cons (w_name o 2 (by decide +kernel)) (sgs_nil) rfl) rfl) rfl rfl) (fun _ o => sts_nil) (fun _ o => w_lv o 2 (by decide +kernel)) rfl (fun _ => rfl))))
theorem d_leaf_of (E : Ev c F) (o : OkX c N_leaf_of (defScope s_leaf_of) allT X) : SSs c.M W0 X (defBody s_leaf_of) (b_leaf_of F) :=
  ss_cons (w_set o 1 (by decide +kernel) (w_call o E.cf_labels_of_1 (by decide +kernel) (sa_cons (w_lv o 0 (by decide +kernel)) (sa_nil) rfl) (sk_nil) rfl rfl) rfl) (ss_one (ss_ret (se_tup (sa_cons (w_const o E.c_LEAF (by decide +kernel)) (sa_cons (w_call o E.cf_lowest_2 (by decide +kernel) (sa_cons (w_bi o (sum_ok o.g) bt_sum (by decide +kernel) E.z_sum (sa_cons (w_lv o 1 (by decide +kernel)) (sa_nil) rfl) rfl rfl) (sa_cons (w_bi o (len_ok o.g) bt_len (by decide +kernel) E.z_len (sa_cons (w_lv o 1 (by decide +kernel)) (sa_nil) rfl) rfl rfl) (sa_nil) rfl) rfl) (sk_nil) rfl rfl) (sa_nil) rfl) rfl))))
theorem d_is_yes (E : Ev c F) (o : OkX c N_is_yes (defScope s_is_yes) allT X) : SSs c.M W0 X (defBody s_is_yes) (b_is_yes F) :=
  ss_one (ss_ret (se_and (w_cmp o (w_sub o (w_lv o 0 (by decide +kernel)) (w_lv o 1 (by decide +kernel)) (fun _ _ => rfl)) (se_non) (nomark _)) (se_one (w_cmp o (w_call o E.cf_held_2 (by decide +kernel) (sa_cons (w_sub o (w_lv o 0 (by decide +kernel)) (w_lv o 1 (by decide +kernel)) (fun _ _ => rfl)) (sa_cons (w_lv o 2 (by decide +kernel)) (sa_nil) rfl) rfl) (sk_nil) rfl rfl) (se_int) (nomark _)))))
theorem d_rows_parted (E : Ev c F) (o : OkX c N_rows_parted (defScope s_rows_parted) allT X) : SSs c.M W0 X (defBody s_rows_parted) (b_rows_parted F) :=
  ss_cons (w_setComp o 3 (by decide +kernel) rfl (by decide +kernel) [("row", 4)] (by decide +kernel) (w_ival o (w_lv o 0 (by decide +kernel))) (fun _ o => w_name o 4 (by decide +kernel)) (fun _ o => sts_one (st_val (w_call o E.cf_is_yes_3 (by decide +kernel) (sa_cons (w_sub o (w_lv o 4 (by decide +kernel)) (se_int) (fun _ _ => rfl)) (sa_cons (w_lv o 1 (by decide +kernel)) (sa_cons (w_lv o 2 (by decide +kernel)) (sa_nil) rfl) rfl) rfl) (sk_nil) rfl rfl) (fun _ => rfl))) (fun _ o => w_lv o 4 (by decide +kernel)) rfl (fun _ => rfl)) (ss_one (ss_ret (se_tup (sa_cons (w_lv o 3 (by decide +kernel)) (sa_cons (se_new (w_comp o [("row", 4)] (by decide +kernel) (w_ival o (w_lv o 0 (by decide +kernel))) (fun _ o => w_name o 4 (by decide +kernel)) (fun _ o => sts_one (st_not (st_val (w_call o E.cf_is_yes_3 (by decide +kernel) (sa_cons (w_sub o (w_lv o 4 (by decide +kernel)) (se_int) (fun _ _ => rfl)) (sa_cons (w_lv o 1 (by decide +kernel)) (sa_cons (w_lv o 2 (by decide +kernel)) (sa_nil) rfl) rfl) rfl) (sk_nil) rfl rfl) (fun _ => rfl)))) (fun _ o => w_lv o 4 (by decide +kernel)) rfl (fun _ => rfl))) (sa_nil) rfl) rfl))))
theorem d_rising_numbers (E : Ev c F) (o : OkX c N_rising_numbers (defScope s_rising_numbers) allT X) : SSs c.M W0 X (defBody s_rising_numbers) (b_rising_numbers F) :=
  ss_cons (w_setOwn o 1 (by decide +kernel) (sf_lst (sa_nil)) rfl) (ss_cons (w_for o (w_ival o (w_lv o 0 (by decide +kernel))) (w_name o 2 (by decide +kernel)) (ss_one (ss_if (SW.st (sw_and (w_tcmp o (w_lv o 2 (by decide +kernel)) (se_non) (nomark _)) (sw_and1 (st_bor (i := 1) (w_tcmp o (w_lv o 2 (by decide +kernel)) (w_lv o 1 (by decide +kernel)) rfl))))) (ss_one (w_ownIns o 1 (by decide +kernel) (se_bor (i := 1) (w_bi o (len_ok o.g) bt_len (by decide +kernel) E.z_len (sa_cons (se_new (w_comp o [("one", 3)] (by decide +kernel) (w_ival o (w_lv o 1 (by decide +kernel))) (fun _ o => w_name o 3 (by decide +kernel)) (fun _ o => sts_one (w_tcmp o (w_call o E.cf_held_2 (by decide +kernel) (sa_cons (w_lv o 3 (by decide +kernel)) (sa_cons (w_lv o 2 (by decide +kernel)) (sa_nil) rfl) rfl) (sk_nil) rfl rfl) (se_int) (nomark _))) (fun _ o => w_lv o 3 (by decide +kernel)) rfl (fun _ => rfl))) (sa_nil) rfl) rfl rfl)) (w_lv o 2 (by decide +kernel)) rfl rfl rfl)) (ss_nil))) (fun _ => rfl)) (ss_freeze (i := 1) (ss_one (ss_ret (w_lv o 1 (by decide +kernel))))))
theorem d_tests_of (E : Ev c F) (o : OkX c N_tests_of (defScope s_tests_of) allT X) : SSs c.M W0 X (defBody s_tests_of) (b_tests_of F) :=
  ss_cons (w_setOwn o 1 (by decide +kernel) (sf_lst (sa_nil)) rfl) (ss_cons (w_for o (w_range1 o (by decide +kernel) E.z_range (w_bi o (len_ok o.g) bt_len (by decide +kernel) E.z_len (sa_cons (w_sub o (w_sub o (w_lv o 0 (by decide +kernel)) (se_int) (fun _ _ => rfl)) (se_int) (fun _ _ => rfl)) (sa_nil) rfl) rfl rfl) rfl) (w_name o 2 (by decide +kernel)) (ss_one (w_for o (w_ival o (w_call o E.cf_rising_numbers_1 (by decide +kernel) (sa_cons (se_new (w_comp o [("numbers", 7), ("label", 8)] (by decide +kernel) (w_ival o (w_lv o 0 (by decide +kernel))) (fun _ o => w_tup o (sgs_cons (w_name o 7 (by decide +kernel)) (sgs_cons (w_name o 8 (by decide +kernel)) (sgs_nil) rfl) rfl) rfl rfl) (fun _ o => sts_nil) (fun _ o => w_sub o (w_lv o 7 (by decide +kernel)) (w_lv o 2 (by decide +kernel)) (fun _ _ => rfl)) rfl (fun _ => rfl))) (sa_nil) rfl) (sk_nil) rfl rfl)) (w_name o 3 (by decide +kernel)) (ss_cons (ss_asg (w_call o E.cf_rows_parted_3 (by decide +kernel) (sa_cons (w_lv o 0 (by decide +kernel)) (sa_cons (w_lv o 2 (by decide +kernel)) (sa_cons (w_lv o 3 (by decide +kernel)) (sa_nil) rfl) rfl) rfl) (sk_nil) rfl rfl) (w_seq o (sgs_cons (w_name o 4 (by decide +kernel)) (sgs_cons (w_name o 5 (by decide +kernel)) (sgs_nil) rfl) rfl) rfl rfl) rfl rfl rfl) (ss_one (ss_if (w_tcmp o (w_lv o 5 (by decide +kernel)) (se_new (sf_lst (sa_nil))) (nomark _)) (ss_cons (w_set o 6 (by decide +kernel) (w_call o E.cf_worked_3 (by decide +kernel) (sa_cons (se_str) (sa_cons (w_call o E.cf_spread_of_1 (by decide +kernel) (sa_cons (w_call o E.cf_labels_of_1 (by decide +kernel) (sa_cons (w_lv o 4 (by decide +kernel)) (sa_nil) rfl) (sk_nil) rfl rfl) (sa_nil) rfl) (sk_nil) rfl rfl) (sa_cons (w_call o E.cf_spread_of_1 (by decide +kernel) (sa_cons (w_call o E.cf_labels_of_1 (by decide +kernel) (sa_cons (w_lv o 5 (by decide +kernel)) (sa_nil) rfl) (sk_nil) rfl rfl) (sa_nil) rfl) (sk_nil) rfl rfl) (sa_nil) rfl) rfl) rfl) (sk_nil) rfl rfl) rfl) (ss_one (w_ownApp o 1 (by decide +kernel) (se_tup (sa_cons (w_lv o 6 (by decide +kernel)) (sa_cons (w_lv o 2 (by decide +kernel)) (sa_cons (w_lv o 3 (by decide +kernel)) (sa_nil) rfl) rfl) rfl)) rfl rfl))) (ss_nil)))) (fun _ => rfl))) (fun _ => rfl)) (ss_freeze (i := 1) (ss_one (ss_ret (w_lv o 1 (by decide +kernel))))))
theorem d_best_test (E : Ev c F) (o : OkX c N_best_test (defScope s_best_test) allT X) : SSs c.M W0 X (defBody s_best_test) (b_best_test F) :=
  ss_cons (w_par2 o 1 2 (by decide +kernel) (by decide +kernel) (by decide) (by decide +kernel) (by decide +kernel) (sa_cons (se_non) (sa_cons (w_call o E.cf_spread_of_1 (by decide +kernel) (sa_cons (w_call o E.cf_labels_of_1 (by decide +kernel) (sa_cons (w_lv o 0 (by decide +kernel)) (sa_nil) rfl) (sk_nil) rfl rfl) (sa_nil) rfl) (sk_nil) rfl rfl) (sa_nil) rfl) rfl) rfl (by decide +kernel)) (ss_cons (w_for o (w_ival o (w_call o E.cf_tests_of_1 (by decide +kernel) (sa_cons (w_lv o 0 (by decide +kernel)) (sa_nil) rfl) (sk_nil) rfl rfl)) (w_tup o (sgs_cons (w_name o 3 (by decide +kernel)) (sgs_cons (w_name o 4 (by decide +kernel)) (sgs_cons (w_name o 5 (by decide +kernel)) (sgs_nil) rfl) rfl) rfl) rfl rfl) (ss_one (ss_if (w_tcmp o (w_call o E.cf_held_2 (by decide +kernel) (sa_cons (w_lv o 3 (by decide +kernel)) (sa_cons (w_lv o 2 (by decide +kernel)) (sa_nil) rfl) rfl) (sk_nil) rfl rfl) (se_int) (nomark _)) (ss_one (w_par2 o 1 2 (by decide +kernel) (by decide +kernel) (by decide) (by decide +kernel) (by decide +kernel) (sa_cons (se_tup (sa_cons (w_lv o 4 (by decide +kernel)) (sa_cons (w_lv o 5 (by decide +kernel)) (sa_nil) rfl) rfl)) (sa_cons (w_lv o 3 (by decide +kernel)) (sa_nil) rfl) rfl) rfl (by decide +kernel))) (ss_nil))) (fun _ => rfl)) (ss_one (ss_ret (w_lv o 1 (by decide +kernel)))))
theorem d_tree_of (E : Ev c F) (o : OkX c N_tree_of (defScope s_tree_of) allT X) : SSs c.M W0 X (defBody s_tree_of) (b_tree_of F) :=
  ss_cons (w_set o 2 (by decide +kernel) (se_ife (w_tcmp o (w_lv o 1 (by decide +kernel)) (se_int) (nomark _)) (w_call o E.cf_best_test_1 (by decide +kernel) (sa_cons (w_lv o 0 (by decide +kernel)) (sa_nil) rfl) (sk_nil) rfl rfl) (se_non)) rfl) (ss_cons (ss_if (w_tcmp o (w_lv o 2 (by decide +kernel)) (se_non) (nomark _)) (ss_one (ss_ret (w_call o E.cf_leaf_of_1 (by decide +kernel) (sa_cons (w_lv o 0 (by decide +kernel)) (sa_nil) rfl) (sk_nil) rfl rfl))) (ss_nil)) (ss_cons (ss_asg (w_lv o 2 (by decide +kernel)) (w_seq o (sgs_cons (w_name o 3 (by decide +kernel)) (sgs_cons (w_name o 4 (by decide +kernel)) (sgs_nil) rfl) rfl) rfl rfl) rfl rfl rfl) (ss_cons (ss_asg (w_call o E.cf_rows_parted_3 (by decide +kernel) (sa_cons (w_lv o 0 (by decide +kernel)) (sa_cons (w_lv o 3 (by decide +kernel)) (sa_cons (w_lv o 4 (by decide +kernel)) (sa_nil) rfl) rfl) rfl) (sk_nil) rfl rfl) (w_seq o (sgs_cons (w_name o 5 (by decide +kernel)) (sgs_cons (w_name o 6 (by decide +kernel)) (sgs_nil) rfl) rfl) rfl rfl) rfl rfl rfl) (ss_one (ss_ret (se_tup (sa_cons (w_const o E.c_TEST (by decide +kernel)) (sa_cons (w_lv o 3 (by decide +kernel)) (sa_cons (w_lv o 4 (by decide +kernel)) (sa_cons (w_call o E.cf_tree_of_1_deep (by decide +kernel) (sa_cons (w_lv o 5 (by decide +kernel)) (sa_nil) rfl) (sk_cons (w_bin o (w_lv o 1 (by decide +kernel)) (se_int)) (sk_nil)) rfl rfl) (sa_cons (w_call o E.cf_tree_of_1_deep (by decide +kernel) (sa_cons (w_lv o 6 (by decide +kernel)) (sa_nil) rfl) (sk_cons (w_bin o (w_lv o 1 (by decide +kernel)) (se_int)) (sk_nil)) rfl rfl) (sa_nil) rfl) rfl) rfl) rfl) rfl)))))))
theorem d_is_tree_on (E : Ev c F) (o : OkX c N_is_tree_on (defScope s_is_tree_on) allT X) : SSs c.M W0 X (defBody s_is_tree_on) (b_is_tree_on F) :=
  ss_cons (ss_if (SW.st (sw_or (st_not (st_val (w_isi o isiK_tuple bt_tuple (by decide +kernel) E.z_isinstance (by decide +kernel) E.z_tuple (w_lv o 0 (by decide +kernel)) rfl) (fun _ => rfl))) (sw_or (w_tcmp o (w_lv o 0 (by decide +kernel)) (se_tup (sa_nil)) (nomark _)) (sw_or1 (st_not (st_val (w_isi o isiK_str bt_str (by decide +kernel) E.z_isinstance (by decide +kernel) E.z_str (w_sub o (w_lv o 0 (by decide +kernel)) (se_int) (fun _ _ => rfl)) rfl) (fun _ => rfl))))))) (ss_one (ss_ret (se_bl))) (ss_nil)) (ss_cons (ss_asg (w_lv o 0 (by decide +kernel)) (w_star o (sgs_cons (w_name o 3 (by decide +kernel)) (sgs_star (w_name o 4 (by decide +kernel)) (sgs_nil) rfl) rfl) (by decide) rfl rfl) rfl rfl rfl) (ss_cons (ss_if (w_tcmp o (w_lv o 3 (by decide +kernel)) (w_const o E.c_LEAF (by decide +kernel)) (nomark _)) (ss_one (ss_ret (se_and (w_cmp o (w_bi o (len_ok o.g) bt_len (by decide +kernel) E.z_len (sa_cons (w_lv o 4 (by decide +kernel)) (sa_nil) rfl) rfl rfl) (se_int) (nomark _)) (se_one (w_call o E.cf_is_ratio_1 (by decide +kernel) (sa_cons (w_sub o (w_lv o 4 (by decide +kernel)) (se_int) (fun _ _ => rfl)) (sa_nil) rfl) (sk_nil) rfl rfl))))) (ss_nil)) (ss_cons (ss_if (SW.st (sw_or (w_tcmp o (w_lv o 3 (by decide +kernel)) (w_const o E.c_TEST (by decide +kernel)) (nomark _)) (sw_or (w_tcmp o (w_bi o (len_ok o.g) bt_len (by decide +kernel) E.z_len (sa_cons (w_lv o 4 (by decide +kernel)) (sa_nil) rfl) rfl rfl) (se_int) (nomark _)) (sw_or1 (w_tcmp o (w_lv o 2 (by decide +kernel)) (se_int) (nomark _)))))) (ss_one (ss_ret (se_bl))) (ss_nil)) (ss_cons (ss_asg (w_lv o 4 (by decide +kernel)) (w_seq o (sgs_cons (w_name o 5 (by decide +kernel)) (sgs_cons (w_name o 6 (by decide +kernel)) (sgs_cons (w_name o 7 (by decide +kernel)) (sgs_cons (w_name o 8 (by decide +kernel)) (sgs_nil) rfl) rfl) rfl) rfl) rfl rfl) rfl rfl rfl) (ss_cons (ss_if (SW.st (sw_or (st_not (st_val (w_call o E.cf_is_within_3 (by decide +kernel) (sa_cons (w_lv o 5 (by decide +kernel)) (sa_cons (se_int) (sa_cons (w_bin o (w_lv o 1 (by decide +kernel)) (se_int)) (sa_nil) rfl) rfl) rfl) (sk_nil) rfl rfl) (fun _ => rfl))) (sw_or1 (st_not (st_val (w_call o E.cf_is_ratio_1 (by decide +kernel) (sa_cons (w_lv o 6 (by decide +kernel)) (sa_nil) rfl) (sk_nil) rfl rfl) (fun _ => rfl)))))) (ss_one (ss_ret (se_bl))) (ss_nil)) (ss_one (ss_ret (se_and (w_call o E.cf_is_tree_on_3 (by decide +kernel) (sa_cons (w_lv o 7 (by decide +kernel)) (sa_cons (w_lv o 1 (by decide +kernel)) (sa_cons (w_bin o (w_lv o 2 (by decide +kernel)) (se_int)) (sa_nil) rfl) rfl) rfl) (sk_nil) rfl rfl) (se_one (w_call o E.cf_is_tree_on_3 (by decide +kernel) (sa_cons (w_lv o 8 (by decide +kernel)) (sa_cons (w_lv o 1 (by decide +kernel)) (sa_cons (w_bin o (w_lv o 2 (by decide +kernel)) (se_int)) (sa_nil) rfl) rfl) rfl) (sk_nil) rfl rfl))))))))))
theorem d_is_tree (E : Ev c F) (o : OkX c N_is_tree (defScope s_is_tree) allT X) : SSs c.M W0 X (defBody s_is_tree) (b_is_tree F) :=
  ss_one (ss_ret (w_call o E.cf_is_tree_on_3 (by decide +kernel) (sa_cons (w_lv o 0 (by decide +kernel)) (sa_cons (w_lv o 1 (by decide +kernel)) (sa_cons (w_const o E.c_MOST_FLOORS (by decide +kernel)) (sa_nil) rfl) rfl) rfl) (sk_nil) rfl rfl))
theorem d_spread_in (E : Ev c F) (o : OkX c N_spread_in (defScope s_spread_in) allT X) : SSs c.M W0 X (defBody s_spread_in) (b_spread_in F) :=
  ss_cons (ss_asg (w_lv o 0 (by decide +kernel)) (w_star o (sgs_cons (w_name o 2 (by decide +kernel)) (sgs_star (w_name o 3 (by decide +kernel)) (sgs_nil) rfl) rfl) (by decide) rfl rfl) rfl rfl rfl) (ss_cons (ss_if (w_tcmp o (w_lv o 2 (by decide +kernel)) (w_const o E.c_LEAF (by decide +kernel)) (nomark _)) (ss_one (ss_ret (w_call o E.cf_spread_of_1 (by decide +kernel) (sa_cons (w_call o E.cf_labels_of_1 (by decide +kernel) (sa_cons (w_lv o 1 (by decide +kernel)) (sa_nil) rfl) (sk_nil) rfl rfl) (sa_nil) rfl) (sk_nil) rfl rfl))) (ss_nil)) (ss_cons (ss_asg (w_lv o 3 (by decide +kernel)) (w_star o (sgs_cons (w_name o 4 (by decide +kernel)) (sgs_cons (w_name o 5 (by decide +kernel)) (sgs_star (w_name o 6 (by decide +kernel)) (sgs_nil) rfl) rfl) rfl) (by decide) rfl rfl) rfl rfl rfl) (ss_cons (w_setComp o 7 (by decide +kernel) rfl (by decide +kernel) [("one", 8), ("some", 9)] (by decide +kernel) (w_zipS o (by decide +kernel) E.z_zip (w_lv o 6 (by decide +kernel)) (w_call o E.cf_rows_parted_3 (by decide +kernel) (sa_cons (w_lv o 1 (by decide +kernel)) (sa_cons (w_lv o 4 (by decide +kernel)) (sa_cons (w_lv o 5 (by decide +kernel)) (sa_nil) rfl) rfl) rfl) (sk_nil) rfl rfl) rfl rfl) (fun _ o => w_tup o (sgs_cons (w_name o 8 (by decide +kernel)) (sgs_cons (w_name o 9 (by decide +kernel)) (sgs_nil) rfl) rfl) rfl rfl) (fun _ o => sts_nil) (fun _ o => w_call o E.cf_spread_in_2 (by decide +kernel) (sa_cons (w_lv o 8 (by decide +kernel)) (sa_cons (w_lv o 9 (by decide +kernel)) (sa_nil) rfl) rfl) (sk_nil) rfl rfl) rfl (fun _ => rfl)) (ss_one (ss_ret (w_call o E.cf_worked_3 (by decide +kernel) (sa_cons (se_str) (sa_cons (w_sub o (w_lv o 7 (by decide +kernel)) (se_int) (fun _ _ => rfl)) (sa_cons (w_sub o (w_lv o 7 (by decide +kernel)) (se_int) (fun _ _ => rfl)) (sa_nil) rfl) rfl) rfl) (sk_nil) rfl rfl))))))
theorem d_is_good (E : Ev c F) (o : OkX c N_is_good (defScope s_is_good) allT X) : SSs c.M W0 X (defBody s_is_good) (b_is_good F) :=
  ss_cons (ss_if (st_not (st_val (w_call o E.cf_is_tree_2 (by decide +kernel) (sa_cons (w_lv o 0 (by decide +kernel)) (sa_cons (w_bi o (len_ok o.g) bt_len (by decide +kernel) E.z_len (sa_cons (w_sub o (w_sub o (w_lv o 1 (by decide +kernel)) (se_int) (fun _ _ => rfl)) (se_int) (fun _ _ => rfl)) (sa_nil) rfl) rfl rfl) (sa_nil) rfl) rfl) (sk_nil) rfl rfl) (fun _ => rfl))) (ss_one (ss_ret (se_bl))) (ss_nil)) (ss_cons (w_set o 2 (by decide +kernel) (w_call o E.cf_spread_in_2 (by decide +kernel) (sa_cons (w_lv o 0 (by decide +kernel)) (sa_cons (w_lv o 1 (by decide +kernel)) (sa_nil) rfl) rfl) (sk_nil) rfl rfl) rfl) (ss_cons (ss_if (w_tcmp o (w_call o E.cf_held_2 (by decide +kernel) (sa_cons (w_lv o 2 (by decide +kernel)) (sa_cons (w_call o E.cf_spread_of_1 (by decide +kernel) (sa_cons (w_call o E.cf_labels_of_1 (by decide +kernel) (sa_cons (w_lv o 1 (by decide +kernel)) (sa_nil) rfl) (sk_nil) rfl rfl) (sa_nil) rfl) (sk_nil) rfl rfl) (sa_nil) rfl) rfl) (sk_nil) rfl rfl) (se_int) (nomark _)) (ss_one (ss_ret (se_bl))) (ss_nil)) (ss_one (ss_ret (w_bi o (all_ok o.g) bt_all (by decide +kernel) E.z_all (sa_cons (se_new (w_comp o [("spread", 3), ("column", 4), ("cut", 5)] (by decide +kernel) (w_ival o (w_call o E.cf_tests_of_1 (by decide +kernel) (sa_cons (w_lv o 1 (by decide +kernel)) (sa_nil) rfl) (sk_nil) rfl rfl)) (fun _ o => w_tup o (sgs_cons (w_name o 3 (by decide +kernel)) (sgs_cons (w_name o 4 (by decide +kernel)) (sgs_cons (w_name o 5 (by decide +kernel)) (sgs_nil) rfl) rfl) rfl) rfl rfl) (fun _ o => sts_nil) (fun _ o => w_cmp o (w_call o E.cf_held_2 (by decide +kernel) (sa_cons (w_lv o 2 (by decide +kernel)) (sa_cons (w_lv o 3 (by decide +kernel)) (sa_nil) rfl) rfl) (sk_nil) rfl rfl) (se_int) (nomark _)) rfl (fun _ => rfl))) (sa_nil) rfl) rfl rfl)))))
theorem d__law_bag (E : Ev c F) (o : OkX c N__law_bag (defScope s__law_bag) allT X) : SSs c.M W0 X (defBody s__law_bag) (b__law_bag F) :=
  ss_cons (w_set o 2 (by decide +kernel) (se_int) rfl) (ss_cons (ss_if (w_tcmp o (w_lv o 1 (by decide +kernel)) (w_bi o (len_ok o.g) bt_len (by decide +kernel) E.z_len (sa_cons (w_lv o 0 (by decide +kernel)) (sa_nil) rfl) rfl rfl) (nomark _)) (ss_one (w_set o 2 (by decide +kernel) (w_bi o abs_ok bt_abs (by decide +kernel) E.z_abs (sa_cons (w_sub o (w_lv o 0 (by decide +kernel)) (w_lv o 1 (by decide +kernel)) (fun _ _ => rfl)) (sa_nil) rfl) rfl rfl) rfl)) (ss_nil)) (ss_cons (w_set o 3 (by decide +kernel) (w_sub o (se_new (sf_lst (sa_cons (se_int) (sa_cons (se_int) (sa_cons (se_int) (sa_cons (se_int) (sa_cons (se_int) (sa_cons (se_int) (sa_cons (se_int) (sa_cons (se_int) (sa_nil) rfl) rfl) rfl) rfl) rfl) rfl) rfl) rfl))) (w_bin o (w_lv o 1 (by decide +kernel)) (se_int)) (fun _ _ => rfl)) rfl) (ss_one (ss_ret (se_alloc (sf_lst (sa_cons (w_bin o (w_lv o 2 (by decide +kernel)) (w_ty o int_ok bt_int (by decide +kernel) E.z_int (sa_cons (w_cmp o (w_lv o 2 (by decide +kernel)) (w_bin o (se_int) (se_int)) (nomark _)) (sa_nil) rfl) rfl rfl)) (sa_cons (w_bin o (w_bin o (w_bin o (w_bin o (w_bin o (w_lv o 2 (by decide +kernel)) (se_int)) (w_bin o (se_int) (w_lv o 1 (by decide +kernel)))) (se_int)) (se_int)) (w_lv o 3 (by decide +kernel))) (sa_cons (w_lv o 3 (by decide +kernel)) (sa_cons (se_int) (sa_nil) rfl) rfl) rfl) rfl)))))))
theorem d__law_take (E : Ev c F) (o : OkX c N__law_take (defScope s__law_take) allT X) : SSs c.M W0 X (defBody s__law_take) (b__law_take F) :=
  ss_cons (ss_if (w_tcmp o (w_sub o (w_lv o 0 (by decide +kernel)) (se_int) (fun _ _ => rfl)) (se_int) (nomark _)) (ss_cons (w_set o 2 (by decide +kernel) (w_bin o (w_sub o (w_lv o 0 (by decide +kernel)) (se_int) (fun _ _ => rfl)) (w_lv o 1 (by decide +kernel))) rfl) (ss_cons (w_setIx o (w_bin o (w_sub o (w_lv o 0 (by decide +kernel)) (se_int) (fun _ _ => rfl)) (w_lv o 1 (by decide +kernel))) (w_lv o 0 (by decide +kernel)) (se_int) (fun _ => rfl) rfl rfl rfl) (ss_one (ss_ret (w_lv o 2 (by decide +kernel)))))) (ss_nil)) (ss_cons (w_setIx o (w_bin o (w_sub o (w_lv o 0 (by decide +kernel)) (se_int) (fun _ _ => rfl)) (se_int)) (w_lv o 0 (by decide +kernel)) (se_int) (fun _ => rfl) rfl rfl rfl) (ss_cons (w_setIx o (w_bin o (w_bin o (w_bin o (w_bin o (w_sub o (w_lv o 0 (by decide +kernel)) (se_int) (fun _ _ => rfl)) (se_int)) (w_bin o (se_int) (w_sub o (w_lv o 0 (by decide +kernel)) (se_int) (fun _ _ => rfl)))) (se_int)) (w_sub o (w_lv o 0 (by decide +kernel)) (se_int) (fun _ _ => rfl))) (w_lv o 0 (by decide +kernel)) (se_int) (fun _ => rfl) rfl rfl rfl) (ss_one (ss_ret (w_bin o (w_bin o (w_bin o (w_bin o (w_sub o (w_lv o 0 (by decide +kernel)) (se_int) (fun _ _ => rfl)) (se_int)) (se_int)) (se_int)) (w_lv o 1 (by decide +kernel)))))))
theorem d__law_ratio (E : Ev c F) (o : OkX c N__law_ratio (defScope s__law_ratio) allT X) : SSs c.M W0 X (defBody s__law_ratio) (b__law_ratio F) :=
  ss_cons (w_par2 o 2 3 (by decide +kernel) (by decide +kernel) (by decide) (by decide +kernel) (by decide +kernel) (sa_cons (w_bi o abs_ok bt_abs (by decide +kernel) E.z_abs (sa_cons (w_lv o 0 (by decide +kernel)) (sa_nil) rfl) rfl rfl) (sa_cons (w_lv o 1 (by decide +kernel)) (sa_nil) rfl) rfl) rfl (by decide +kernel)) (ss_cons (w_while o (w_tcmp o (w_lv o 3 (by decide +kernel)) (se_int) (nomark _)) (ss_one (w_par2 o 2 3 (by decide +kernel) (by decide +kernel) (by decide) (by decide +kernel) (by decide +kernel) (sa_cons (w_lv o 3 (by decide +kernel)) (sa_cons (w_bin o (w_lv o 2 (by decide +kernel)) (w_lv o 3 (by decide +kernel))) (sa_nil) rfl) rfl) rfl (by decide +kernel)))) (ss_one (ss_ret (se_tup (sa_cons (w_bin o (w_lv o 0 (by decide +kernel)) (w_lv o 2 (by decide +kernel))) (sa_cons (w_bin o (w_lv o 1 (by decide +kernel)) (w_lv o 2 (by decide +kernel))) (sa_nil) rfl) rfl)))))
theorem d__law_less (E : Ev c F) (o : OkX c N__law_less (defScope s__law_less) allT X) : SSs c.M W0 X (defBody s__law_less) (b__law_less F) :=
  ss_one (ss_ret (w_cmp o (w_bin o (w_sub o (w_lv o 0 (by decide +kernel)) (se_int) (fun _ _ => rfl)) (w_sub o (w_lv o 1 (by decide +kernel)) (se_int) (fun _ _ => rfl))) (w_bin o (w_sub o (w_lv o 1 (by decide +kernel)) (se_int) (fun _ _ => rfl)) (w_sub o (w_lv o 0 (by decide +kernel)) (se_int) (fun _ _ => rfl))) (nomark _)))
theorem d__law_number (E : Ev c F) (o : OkX c N__law_number (defScope s__law_number) allT X) : SSs c.M W0 X (defBody s__law_number) (b__law_number F) :=
  ss_cons (w_set o 1 (by decide +kernel) (w_call o E.cf__law_take_2 (by decide +kernel) (sa_cons (w_lv o 0 (by decide +kernel)) (sa_cons (se_int) (sa_nil) rfl) rfl) (sk_nil) rfl rfl) rfl) (ss_cons (ss_if (w_tcmp o (w_lv o 1 (by decide +kernel)) (se_int) (nomark _)) (ss_one (ss_ret (se_non))) (ss_nil)) (ss_cons (ss_if (w_tcmp o (w_lv o 1 (by decide +kernel)) (se_int) (nomark _)) (ss_one (ss_ret (w_sub o (se_new (sf_lst (sa_cons (se_tup (sa_cons (se_int) (sa_cons (se_int) (sa_nil) rfl) rfl)) (sa_cons (se_tup (sa_cons (se_int) (sa_cons (se_int) (sa_nil) rfl) rfl)) (sa_cons (se_tup (sa_cons (w_neg o (se_int)) (sa_cons (se_int) (sa_nil) rfl) rfl)) (sa_cons (se_tup (sa_cons (se_int) (sa_cons (se_int) (sa_nil) rfl) rfl)) (sa_cons (se_tup (sa_cons (se_int) (sa_cons (se_int) (sa_nil) rfl) rfl)) (sa_cons (se_tup (sa_cons (w_neg o (se_int)) (sa_cons (se_int) (sa_nil) rfl) rfl)) (sa_cons (se_tup (sa_cons (se_int) (sa_cons (se_int) (sa_nil) rfl) rfl)) (sa_nil) rfl) rfl) rfl) rfl) rfl) rfl) rfl))) (w_call o E.cf__law_take_2 (by decide +kernel) (sa_cons (w_lv o 0 (by decide +kernel)) (sa_cons (se_int) (sa_nil) rfl) rfl) (sk_nil) rfl rfl) (fun _ _ => rfl)))) (ss_nil)) (ss_one (ss_ret (w_call o E.cf__law_ratio_2 (by decide +kernel) (sa_cons (w_bin o (w_call o E.cf__law_take_2 (by decide +kernel) (sa_cons (w_lv o 0 (by decide +kernel)) (sa_cons (w_sub o (se_new (sf_lst (sa_cons (se_int) (sa_cons (se_int) (sa_cons (w_bin o (w_bin o (se_int) (w_bin o (se_int) (se_int))) (se_int)) (sa_nil) rfl) rfl) rfl))) (w_bin o (w_lv o 1 (by decide +kernel)) (se_int)) (fun _ _ => rfl)) (sa_nil) rfl) rfl) (sk_nil) rfl rfl) (w_sub o (se_new (sf_lst (sa_cons (se_int) (sa_cons (se_int) (sa_cons (w_bin o (se_int) (se_int)) (sa_nil) rfl) rfl) rfl))) (w_bin o (w_lv o 1 (by decide +kernel)) (se_int)) (fun _ _ => rfl))) (sa_cons (w_bin o (se_int) (w_call o E.cf__law_take_2 (by decide +kernel) (sa_cons (w_lv o 0 (by decide +kernel)) (sa_cons (se_int) (sa_nil) rfl) rfl) (sk_nil) rfl rfl)) (sa_nil) rfl) rfl) (sk_nil) rfl rfl)))))
theorem d__law_rows (E : Ev c F) (o : OkX c N__law_rows (defScope s__law_rows) allT X) : SSs c.M W0 X (defBody s__law_rows) (b__law_rows F) :=
  ss_cons (w_set o 2 (by decide +kernel) (w_sub o (se_new (sf_lst (sa_cons (w_bin o (se_int) (w_call o E.cf__law_take_2 (by decide +kernel) (sa_cons (w_lv o 0 (by decide +kernel)) (sa_cons (se_int) (sa_nil) rfl) rfl) (sk_nil) rfl rfl)) (sa_cons (se_int) (sa_nil) rfl) rfl))) (w_ty o int_ok bt_int (by decide +kernel) E.z_int (sa_cons (w_cmp o (w_call o E.cf__law_take_2 (by decide +kernel) (sa_cons (w_lv o 0 (by decide +kernel)) (sa_cons (se_int) (sa_nil) rfl) rfl) (sk_nil) rfl rfl) (se_int) (nomark _)) (sa_nil) rfl) rfl rfl) (fun _ _ => rfl)) rfl) (ss_cons (w_parOwn o 3 4 (by decide +kernel) (by decide +kernel) (by decide) (by decide +kernel) (by decide +kernel) (w_call o E.cf__law_take_2 (by decide +kernel) (sa_cons (w_lv o 0 (by decide +kernel)) (sa_cons (se_int) (sa_nil) rfl) rfl) (sk_nil) rfl rfl) (sf_lst (sa_nil)) rfl rfl rfl (by decide +kernel)) (ss_cons (w_for o (w_range1 o (by decide +kernel) E.z_range (w_bin o (se_int) (w_call o E.cf__law_take_2 (by decide +kernel) (sa_cons (w_lv o 0 (by decide +kernel)) (sa_cons (w_lv o 1 (by decide +kernel)) (sa_nil) rfl) rfl) (sk_nil) rfl rfl)) rfl) (w_name o 5 (by decide +kernel)) (ss_cons (w_set o 6 (by decide +kernel) (w_ty o (tuple_ok o.g) bt_tuple (by decide +kernel) E.z_tuple (sa_cons (se_new (w_comp o [("_law_k", 8)] (by decide +kernel) (w_range1 o (by decide +kernel) E.z_range (w_lv o 2 (by decide +kernel)) rfl) (fun _ o => w_name o 8 (by decide +kernel)) (fun _ o => sts_nil) (fun _ o => w_call o E.cf__law_number_1 (by decide +kernel) (sa_cons (w_lv o 0 (by decide +kernel)) (sa_nil) rfl) (sk_nil) rfl rfl) rfl (fun _ => rfl))) (sa_nil) rfl) rfl rfl) rfl) (ss_cons (w_set o 7 (by decide +kernel) (w_sub o (se_new (sf_lst (sa_cons (w_call o E.cf__law_take_2 (by decide +kernel) (sa_cons (w_lv o 0 (by decide +kernel)) (sa_cons (se_int) (sa_nil) rfl) rfl) (sk_nil) rfl rfl) (sa_cons (w_bin o (w_call o E.cf__law_take_2 (by decide +kernel) (sa_cons (w_lv o 0 (by decide +kernel)) (sa_cons (se_int) (sa_nil) rfl) rfl) (sk_nil) rfl rfl) (se_int)) (sa_cons (w_call o E.cf__law_take_2 (by decide +kernel) (sa_cons (w_lv o 0 (by decide +kernel)) (sa_cons (se_int) (sa_nil) rfl) rfl) (sk_nil) rfl rfl) (sa_nil) rfl) rfl) rfl))) (w_lv o 3 (by decide +kernel)) (fun _ _ => rfl)) rfl) (ss_cons (ss_if (SW.st (sw_and (w_tcmp o (w_lv o 3 (by decide +kernel)) (se_int) (nomark _)) (sw_and1 (w_tcmp o (w_sub o (w_lv o 6 (by decide +kernel)) (se_int) (fun _ _ => rfl)) (se_non) (nomark _))))) (ss_one (w_set o 7 (by decide +kernel) (w_bin o (w_lv o 7 (by decide +kernel)) (w_bin o (se_int) (w_ty o int_ok bt_int (by decide +kernel) E.z_int (sa_cons (w_call o E.cf__law_less_2 (by decide +kernel) (sa_cons (se_tup (sa_cons (se_int) (sa_cons (se_int) (sa_nil) rfl) rfl)) (sa_cons (w_sub o (w_lv o 6 (by decide +kernel)) (se_int) (fun _ _ => rfl)) (sa_nil) rfl) rfl) (sk_nil) rfl rfl) (sa_nil) rfl) rfl rfl))) rfl)) (ss_nil)) (ss_one (w_ownApp o 4 (by decide +kernel) (se_tup (sa_cons (w_lv o 6 (by decide +kernel)) (sa_cons (w_lv o 7 (by decide +kernel)) (sa_nil) rfl) rfl)) rfl rfl))))) (fun _ => rfl)) (ss_freeze (i := 4) (ss_one (ss_ret (w_lv o 4 (by decide +kernel)))))))
theorem d__law_spread (E : Ev c F) (o : OkX c N__law_spread (defScope s__law_spread) allT X) : SSs c.M W0 X (defBody s__law_spread) (b__law_spread F) :=
  ss_cons (ss_if (w_tcmp o (w_lv o 0 (by decide +kernel)) (se_new (sf_lst (sa_nil))) (nomark _)) (ss_one (ss_ret (se_tup (sa_cons (se_int) (sa_cons (se_int) (sa_nil) rfl) rfl)))) (ss_nil)) (ss_one (ss_ret (se_tup (sa_cons (w_bin o (w_bin o (w_bi o (len_ok o.g) bt_len (by decide +kernel) E.z_len (sa_cons (w_lv o 0 (by decide +kernel)) (sa_nil) rfl) rfl rfl) (w_bi o (sum_ok o.g) bt_sum (by decide +kernel) E.z_sum (sa_cons (se_new (w_comp o [("_law_label", 1)] (by decide +kernel) (w_ival o (w_lv o 0 (by decide +kernel))) (fun _ o => w_name o 1 (by decide +kernel)) (fun _ o => sts_nil) (fun _ o => w_bin o (w_lv o 1 (by decide +kernel)) (w_lv o 1 (by decide +kernel))) rfl (fun _ => rfl))) (sa_nil) rfl) rfl rfl)) (w_bin o (w_bi o (sum_ok o.g) bt_sum (by decide +kernel) E.z_sum (sa_cons (w_lv o 0 (by decide +kernel)) (sa_nil) rfl) rfl rfl) (se_int))) (sa_cons (w_bi o (len_ok o.g) bt_len (by decide +kernel) E.z_len (sa_cons (w_lv o 0 (by decide +kernel)) (sa_nil) rfl) rfl rfl) (sa_nil) rfl) rfl))))
theorem d__law_both (E : Ev c F) (o : OkX c N__law_both (defScope s__law_both) allT X) : SSs c.M W0 X (defBody s__law_both) (b__law_both F) :=
  ss_one (ss_ret (se_tup (sa_cons (w_bin o (w_bin o (w_sub o (w_lv o 0 (by decide +kernel)) (se_int) (fun _ _ => rfl)) (w_sub o (w_lv o 1 (by decide +kernel)) (se_int) (fun _ _ => rfl))) (w_bin o (w_sub o (w_lv o 1 (by decide +kernel)) (se_int) (fun _ _ => rfl)) (w_sub o (w_lv o 0 (by decide +kernel)) (se_int) (fun _ _ => rfl)))) (sa_cons (w_bin o (w_sub o (w_lv o 0 (by decide +kernel)) (se_int) (fun _ _ => rfl)) (w_sub o (w_lv o 1 (by decide +kernel)) (se_int) (fun _ _ => rfl))) (sa_nil) rfl) rfl)))
theorem d__law_cuts (E : Ev c F) (o : OkX c N__law_cuts (defScope s__law_cuts) allT X) : SSs c.M W0 X (defBody s__law_cuts) (b__law_cuts F) :=
  ss_cons (w_setOwn o 1 (by decide +kernel) (sf_lst (sa_nil)) rfl) (ss_cons (w_for o (w_ival o (w_lv o 0 (by decide +kernel))) (w_name o 2 (by decide +kernel)) (ss_one (ss_if (SW.st (sw_and (w_tcmp o (w_lv o 2 (by decide +kernel)) (se_non) (nomark _)) (sw_and1 (st_bor (i := 1) (w_tcmp o (w_lv o 2 (by decide +kernel)) (w_lv o 1 (by decide +kernel)) rfl))))) (ss_one (w_ownIns o 1 (by decide +kernel) (se_bor (i := 1) (w_bi o (len_ok o.g) bt_len (by decide +kernel) E.z_len (sa_cons (se_new (w_comp o [("_law_one", 3)] (by decide +kernel) (w_ival o (w_lv o 1 (by decide +kernel))) (fun _ o => w_name o 3 (by decide +kernel)) (fun _ o => sts_one (st_val (w_call o E.cf__law_less_2 (by decide +kernel) (sa_cons (w_lv o 3 (by decide +kernel)) (sa_cons (w_lv o 2 (by decide +kernel)) (sa_nil) rfl) rfl) (sk_nil) rfl rfl) (fun _ => rfl))) (fun _ o => w_lv o 3 (by decide +kernel)) rfl (fun _ => rfl))) (sa_nil) rfl) rfl rfl)) (w_lv o 2 (by decide +kernel)) rfl rfl rfl)) (ss_nil))) (fun _ => rfl)) (ss_freeze (i := 1) (ss_one (ss_ret (w_lv o 1 (by decide +kernel))))))
theorem d__law_sides (E : Ev c F) (o : OkX c N__law_sides (defScope s__law_sides) allT X) : SSs c.M W0 X (defBody s__law_sides) (b__law_sides F) :=
  ss_cons (w_parOwn2 o 3 4 (by decide +kernel) (by decide +kernel) (by decide) (by decide +kernel) (by decide +kernel) (sf_lst (sa_nil)) (sf_lst (sa_nil)) rfl rfl rfl (by decide +kernel)) (ss_cons (w_for o (w_ival o (w_lv o 0 (by decide +kernel))) (w_tup o (sgs_cons (w_name o 5 (by decide +kernel)) (sgs_cons (w_name o 6 (by decide +kernel)) (sgs_nil) rfl) rfl) rfl rfl) (ss_cons (w_set o 7 (by decide +kernel) (se_and (w_cmp o (w_sub o (w_lv o 5 (by decide +kernel)) (w_lv o 1 (by decide +kernel)) (fun _ _ => rfl)) (se_non) (nomark _)) (se_one (se_not (w_call o E.cf__law_less_2 (by decide +kernel) (sa_cons (w_lv o 2 (by decide +kernel)) (sa_cons (w_sub o (w_lv o 5 (by decide +kernel)) (w_lv o 1 (by decide +kernel)) (fun _ _ => rfl)) (sa_nil) rfl) rfl) (sk_nil) rfl rfl)))) rfl) (ss_one (w_pickApp o 4 3 (by decide +kernel) (by decide +kernel) (w_ty o int_ok bt_int (by decide +kernel) E.z_int (sa_cons (w_lv o 7 (by decide +kernel)) (sa_nil) rfl) rfl rfl) (se_tup (sa_cons (w_lv o 5 (by decide +kernel)) (sa_cons (w_lv o 6 (by decide +kernel)) (sa_nil) rfl) rfl)) (fun _ _ => rfl) rfl rfl rfl))) (fun _ => rfl)) (ss_freeze (i := 3) (ss_freeze (i := 4) (ss_one (ss_ret (se_tup (sa_cons (w_lv o 3 (by decide +kernel)) (sa_cons (w_lv o 4 (by decide +kernel)) (sa_nil) rfl) rfl)))))))
theorem d__law_labels (E : Ev c F) (o : OkX c N__law_labels (defScope s__law_labels) allT X) : SSs c.M W0 X (defBody s__law_labels) (b__law_labels F) :=
  ss_one (ss_ret (se_new (w_comp o [("_law_those", 1), ("_law_label", 2)] (by decide +kernel) (w_ival o (w_lv o 0 (by decide +kernel))) (fun _ o => w_tup o (sgs_cons (w_name o 1 (by decide +kernel)) (sgs_cons (w_name o 2 (by decide +kernel)) (sgs_nil) rfl) rfl) rfl rfl) (fun _ o => sts_nil) (fun _ o => w_lv o 2 (by decide +kernel)) rfl (fun _ => rfl))))
theorem d__law_spread_of (E : Ev c F) (o : OkX c N__law_spread_of (defScope s__law_spread_of) allT X) : SSs c.M W0 X (defBody s__law_spread_of) (b__law_spread_of F) :=
  ss_one (ss_ret (w_call o E.cf_spread_of_1 (by decide +kernel) (sa_cons (w_call o E.cf__law_labels_1 (by decide +kernel) (sa_cons (w_lv o 0 (by decide +kernel)) (sa_nil) rfl) (sk_nil) rfl rfl) (sa_nil) rfl) (sk_nil) rfl rfl))
theorem d__law_test_spread (E : Ev c F) (o : OkX c N__law_test_spread (defScope s__law_test_spread) allT X) : SSs c.M W0 X (defBody s__law_test_spread) (b__law_test_spread F) :=
  ss_cons (ss_asg (w_call o E.cf__law_sides_3 (by decide +kernel) (sa_cons (w_lv o 0 (by decide +kernel)) (sa_cons (w_lv o 1 (by decide +kernel)) (sa_cons (w_lv o 2 (by decide +kernel)) (sa_nil) rfl) rfl) rfl) (sk_nil) rfl rfl) (w_seq o (sgs_cons (w_name o 3 (by decide +kernel)) (sgs_cons (w_name o 4 (by decide +kernel)) (sgs_nil) rfl) rfl) rfl rfl) rfl rfl rfl) (ss_one (ss_ret (w_call o E.cf__law_both_2 (by decide +kernel) (sa_cons (w_call o E.cf__law_spread_of_1 (by decide +kernel) (sa_cons (w_lv o 3 (by decide +kernel)) (sa_nil) rfl) (sk_nil) rfl rfl) (sa_cons (w_call o E.cf__law_spread_of_1 (by decide +kernel) (sa_cons (w_lv o 4 (by decide +kernel)) (sa_nil) rfl) (sk_nil) rfl rfl) (sa_nil) rfl) rfl) (sk_nil) rfl rfl)))
theorem d__law_least_right (E : Ev c F) (o : OkX c N__law_least_right (defScope s__law_least_right) allT X) : SSs c.M W0 X (defBody s__law_least_right) (b__law_least_right F) :=
  ss_cons (w_set o 3 (by decide +kernel) (w_call o E.cf__law_spread_1 (by decide +kernel) (sa_cons (w_call o E.cf__law_labels_1 (by decide +kernel) (sa_cons (w_lv o 1 (by decide +kernel)) (sa_nil) rfl) (sk_nil) rfl rfl) (sa_nil) rfl) (sk_nil) rfl rfl) rfl) (ss_cons (ss_if (w_tcmp o (w_sub o (w_lv o 2 (by decide +kernel)) (se_int) (fun _ _ => rfl)) (se_str) (nomark _)) (ss_one (w_set o 3 (by decide +kernel) (w_call o E.cf__law_test_spread_3 (by decide +kernel) (sa_cons (w_lv o 1 (by decide +kernel)) (sa_cons (w_sub o (w_lv o 2 (by decide +kernel)) (se_int) (fun _ _ => rfl)) (sa_cons (w_sub o (w_lv o 2 (by decide +kernel)) (se_int) (fun _ _ => rfl)) (sa_nil) rfl) rfl) rfl) (sk_nil) rfl rfl) rfl)) (ss_nil)) (ss_cons (w_for o (w_range1 o (by decide +kernel) E.z_range (w_bi o (len_ok o.g) bt_len (by decide +kernel) E.z_len (sa_cons (w_sub o (w_sub o (w_lv o 1 (by decide +kernel)) (se_int) (fun _ _ => rfl)) (se_int) (fun _ _ => rfl)) (sa_nil) rfl) rfl rfl) rfl) (w_name o 4 (by decide +kernel)) (ss_cons (w_set o 5 (by decide +kernel) (w_call o E.cf__law_cuts_1 (by decide +kernel) (sa_cons (se_new (w_comp o [("_law_those", 8), ("_law_label", 9)] (by decide +kernel) (w_ival o (w_lv o 1 (by decide +kernel))) (fun _ o => w_tup o (sgs_cons (w_name o 8 (by decide +kernel)) (sgs_cons (w_name o 9 (by decide +kernel)) (sgs_nil) rfl) rfl) rfl rfl) (fun _ o => sts_nil) (fun _ o => w_sub o (w_lv o 8 (by decide +kernel)) (w_lv o 4 (by decide +kernel)) (fun _ _ => rfl)) rfl (fun _ => rfl))) (sa_nil) rfl) (sk_nil) rfl rfl) rfl) (ss_one (w_for o (w_ival o (w_bin o (w_bin o (w_lv o 5 (by decide +kernel)) (se_new (w_comp o [("_law_one", 10)] (by decide +kernel) (w_ival o (w_lv o 5 (by decide +kernel))) (fun _ o => w_name o 10 (by decide +kernel)) (fun _ o => sts_nil) (fun _ o => se_tup (sa_cons (w_bin o (w_bin o (se_int) (w_sub o (w_lv o 10 (by decide +kernel)) (se_int) (fun _ _ => rfl))) (w_sub o (w_lv o 10 (by decide +kernel)) (se_int) (fun _ _ => rfl))) (sa_cons (w_bin o (se_int) (w_sub o (w_lv o 10 (by decide +kernel)) (se_int) (fun _ _ => rfl))) (sa_nil) rfl) rfl)) rfl (fun _ => rfl)))) (se_new (sf_lst (sa_cons (se_tup (sa_cons (w_neg o (w_bin o (se_int) (se_int))) (sa_cons (se_int) (sa_nil) rfl) rfl)) (sa_cons (se_tup (sa_cons (se_int) (sa_cons (se_int) (sa_nil) rfl) rfl)) (sa_nil) rfl) rfl))))) (w_name o 6 (by decide +kernel)) (ss_cons (w_set o 7 (by decide +kernel) (w_call o E.cf__law_test_spread_3 (by decide +kernel) (sa_cons (w_lv o 1 (by decide +kernel)) (sa_cons (w_lv o 4 (by decide +kernel)) (sa_cons (w_lv o 6 (by decide +kernel)) (sa_nil) rfl) rfl) rfl) (sk_nil) rfl rfl) rfl) (ss_cons (ss_if (st_val (w_call o E.cf__law_less_2 (by decide +kernel) (sa_cons (w_lv o 7 (by decide +kernel)) (sa_cons (w_lv o 3 (by decide +kernel)) (sa_nil) rfl) rfl) (sk_nil) rfl rfl) (fun _ => rfl)) (ss_one (ss_ret (se_bl))) (ss_nil)) (ss_one (ss_if (SW.st (sw_and (w_tcmp o (w_sub o (w_lv o 2 (by decide +kernel)) (se_int) (fun _ _ => rfl)) (se_str) (nomark _)) (sw_and (w_tcmp o (w_lv o 6 (by decide +kernel)) (w_lv o 5 (by decide +kernel)) rfl) (sw_and1 (st_not (st_val (w_call o E.cf__law_less_2 (by decide +kernel) (sa_cons (w_lv o 3 (by decide +kernel)) (sa_cons (w_lv o 7 (by decide +kernel)) (sa_nil) rfl) rfl) (sk_nil) rfl rfl) (fun _ => rfl))))))) (ss_one (ss_if (SW.st (sw_or (w_tcmp o (w_lv o 4 (by decide +kernel)) (w_sub o (w_lv o 2 (by decide +kernel)) (se_int) (fun _ _ => rfl)) (nomark _)) (sw_or1 (SW.st (sw_and (w_tcmp o (w_lv o 4 (by decide +kernel)) (w_sub o (w_lv o 2 (by decide +kernel)) (se_int) (fun _ _ => rfl)) (nomark _)) (sw_and1 (st_val (w_call o E.cf__law_less_2 (by decide +kernel) (sa_cons (w_lv o 6 (by decide +kernel)) (sa_cons (w_sub o (w_lv o 2 (by decide +kernel)) (se_int) (fun _ _ => rfl)) (sa_nil) rfl) rfl) (sk_nil) rfl rfl) (fun _ => rfl)))))))) (ss_one (ss_ret (se_bl))) (ss_nil))) (ss_nil))))) (fun _ => rfl)))) (fun _ => rfl)) (ss_one (ss_ret (se_or (w_cmp o (w_sub o (w_lv o 2 (by decide +kernel)) (se_int) (fun _ _ => rfl)) (se_str) (nomark _)) (se_one (w_call o E.cf__law_less_2 (by decide +kernel) (sa_cons (w_lv o 3 (by decide +kernel)) (sa_cons (w_call o E.cf__law_spread_1 (by decide +kernel) (sa_cons (w_call o E.cf__law_labels_1 (by decide +kernel) (sa_cons (w_lv o 1 (by decide +kernel)) (sa_nil) rfl) (sk_nil) rfl rfl) (sa_nil) rfl) (sk_nil) rfl rfl) (sa_nil) rfl) rfl) (sk_nil) rfl rfl)))))))
theorem d__law_good (E : Ev c F) (o : OkX c N__law_good (defScope s__law_good) allT X) : SSs c.M W0 X (defBody s__law_good) (b__law_good F) :=
  ss_cons (w_set o 2 (by decide +kernel) (w_call o E.cf_tree_of_1_deep (by decide +kernel) (sa_cons (w_lv o 1 (by decide +kernel)) (sa_nil) rfl) (sk_cons (se_int) (sk_nil)) rfl rfl) rfl) (ss_cons (ss_if (SW.st (sw_or (st_not (st_val (w_call o E.cf__law_least_right_3 (by decide +kernel) (sa_cons (w_lv o 0 (by decide +kernel)) (sa_cons (w_lv o 1 (by decide +kernel)) (sa_cons (w_lv o 2 (by decide +kernel)) (sa_nil) rfl) rfl) rfl) (sk_nil) rfl rfl) (fun _ => rfl))) (sw_or1 (w_tisB o (w_call o E.cf_is_good_2 (by decide +kernel) (sa_cons (w_lv o 2 (by decide +kernel)) (sa_cons (w_lv o 1 (by decide +kernel)) (sa_nil) rfl) rfl) (sk_nil) rfl rfl) (se_bl) (nomark _))))) (ss_one (ss_ret (se_bl))) (ss_nil)) (ss_cons (ss_if (w_tcmp o (w_sub o (w_lv o 2 (by decide +kernel)) (se_int) (fun _ _ => rfl)) (se_str) (nomark _)) (ss_one (ss_ret (w_cmp o (w_lv o 2 (by decide +kernel)) (se_tup (sa_cons (se_str) (sa_cons (w_call o E.cf__law_ratio_2 (by decide +kernel) (sa_cons (w_bi o (sum_ok o.g) bt_sum (by decide +kernel) E.z_sum (sa_cons (w_call o E.cf__law_labels_1 (by decide +kernel) (sa_cons (w_lv o 1 (by decide +kernel)) (sa_nil) rfl) (sk_nil) rfl rfl) (sa_nil) rfl) rfl rfl) (sa_cons (w_bi o (len_ok o.g) bt_len (by decide +kernel) E.z_len (sa_cons (w_lv o 1 (by decide +kernel)) (sa_nil) rfl) rfl rfl) (sa_nil) rfl) rfl) (sk_nil) rfl rfl) (sa_nil) rfl) rfl)) (nomark _)))) (ss_nil)) (ss_cons (w_setComp o 3 (by decide +kernel) rfl (by decide +kernel) [("_law_lot", 4)] (by decide +kernel) (w_ival o (w_call o E.cf__law_sides_3 (by decide +kernel) (sa_cons (w_lv o 1 (by decide +kernel)) (sa_cons (w_sub o (w_lv o 2 (by decide +kernel)) (se_int) (fun _ _ => rfl)) (sa_cons (w_sub o (w_lv o 2 (by decide +kernel)) (se_int) (fun _ _ => rfl)) (sa_nil) rfl) rfl) rfl) (sk_nil) rfl rfl)) (fun _ o => w_name o 4 (by decide +kernel)) (fun _ o => sts_nil) (fun _ o => w_call o E.cf__law_labels_1 (by decide +kernel) (sa_cons (w_lv o 4 (by decide +kernel)) (sa_nil) rfl) (sk_nil) rfl rfl) rfl (fun _ => rfl)) (ss_cons (ss_if (SW.st (sw_or (w_tcmp o (w_sub o (w_lv o 2 (by decide +kernel)) (se_int) (fun _ _ => rfl)) (se_str) (nomark _)) (sw_or (w_tcmp o (w_bi o (len_ok o.g) bt_len (by decide +kernel) E.z_len (sa_cons (w_lv o 2 (by decide +kernel)) (sa_nil) rfl) rfl rfl) (se_int) (nomark _)) (sw_or1 (w_tcmp o (se_new (sf_lst (sa_nil))) (w_lv o 3 (by decide +kernel)) rfl))))) (ss_one (ss_ret (se_bl))) (ss_nil)) (ss_one (ss_ret (w_cmp o (se_new (w_tyF o (list_ok o.g) bt_list (by decide +kernel) E.z_list (sa_cons (w_cut o (w_lv o 2 (by decide +kernel)) (so_some (se_int)) (so_none)) (sa_nil) rfl) rfl rfl)) (se_new (w_comp o [("_law_some", 5)] (by decide +kernel) (w_ival o (w_lv o 3 (by decide +kernel))) (fun _ o => w_name o 5 (by decide +kernel)) (fun _ o => sts_nil) (fun _ o => se_tup (sa_cons (se_str) (sa_cons (w_call o E.cf__law_ratio_2 (by decide +kernel) (sa_cons (w_bi o (sum_ok o.g) bt_sum (by decide +kernel) E.z_sum (sa_cons (w_lv o 5 (by decide +kernel)) (sa_nil) rfl) rfl rfl) (sa_cons (w_bi o (len_ok o.g) bt_len (by decide +kernel) E.z_len (sa_cons (w_lv o 5 (by decide +kernel)) (sa_nil) rfl) rfl rfl) (sa_nil) rfl) rfl) (sk_nil) rfl rfl) (sa_nil) rfl) rfl)) rfl (fun _ => rfl))) (nomark _))))))))
theorem d_law (E : Ev c F) (o : OkX c N_law (defScope s_law) allT X) : SSs c.M W0 X (defBody s_law) (b_law F) :=
  ss_cons (w_for o (w_range1 o (by decide +kernel) E.z_range (w_bi o (max_ok o.g) bt_max (by decide +kernel) E.z_max (sa_cons (se_int) (sa_cons (w_bi o (min_ok o.g) bt_min (by decide +kernel) E.z_min (sa_cons (se_int) (sa_cons (w_bi o (len_ok o.g) bt_len (by decide +kernel) E.z_len (sa_cons (w_lv o 0 (by decide +kernel)) (sa_nil) rfl) rfl rfl) (sa_nil) rfl) rfl) rfl rfl) (sa_nil) rfl) rfl) rfl rfl) rfl) (w_name o 1 (by decide +kernel)) (ss_cons (w_set o 2 (by decide +kernel) (w_call o E.cf__law_bag_2 (by decide +kernel) (sa_cons (w_lv o 0 (by decide +kernel)) (sa_cons (w_lv o 1 (by decide +kernel)) (sa_nil) rfl) rfl) (sk_nil) rfl rfl) rfl) (ss_one (w_for o (w_range1 o (by decide +kernel) E.z_range (se_int) rfl) (w_name o 3 (by decide +kernel)) (ss_cons (w_set o 4 (by decide +kernel) (w_call o E.cf__law_rows_2 (by decide +kernel) (sa_cons (w_lv o 2 (by decide +kernel)) (sa_cons (se_int) (sa_nil) rfl) rfl) (sk_nil) rfl rfl) rfl) (ss_cons (w_set o 5 (by decide +kernel) (w_call o E.cf__law_labels_1 (by decide +kernel) (sa_cons (w_lv o 4 (by decide +kernel)) (sa_nil) rfl) (sk_nil) rfl rfl) rfl) (ss_cons (w_par2 o 6 7 (by decide +kernel) (by decide +kernel) (by decide) (by decide +kernel) (by decide +kernel) (sa_cons (w_call o E.cf_spread_of_1 (by decide +kernel) (sa_cons (w_lv o 5 (by decide +kernel)) (sa_nil) rfl) (sk_nil) rfl rfl) (sa_cons (w_call o E.cf__law_spread_1 (by decide +kernel) (sa_cons (w_lv o 5 (by decide +kernel)) (sa_nil) rfl) (sk_nil) rfl rfl) (sa_nil) rfl) rfl) rfl (by decide +kernel)) (ss_cons (ss_if (SW.st (sw_or (w_tcmp o (w_bi o (repr_ok o.g) bt_repr (by decide +kernel) E.z_repr (sa_cons (w_lv o 6 (by decide +kernel)) (sa_nil) rfl) rfl rfl) (w_bi o (repr_ok o.g) bt_repr (by decide +kernel) E.z_repr (sa_cons (w_call o E.cf__law_ratio_2 (by decide +kernel) (sa_cons (w_sub o (w_lv o 7 (by decide +kernel)) (se_int) (fun _ _ => rfl)) (sa_cons (w_sub o (w_lv o 7 (by decide +kernel)) (se_int) (fun _ _ => rfl)) (sa_nil) rfl) rfl) (sk_nil) rfl rfl) (sa_nil) rfl) rfl rfl) (nomark _)) (sw_or1 (w_tcmp o (w_call o E.cf_spread_of_0_labels (by decide +kernel) (sa_nil) (sk_cons (se_new (w_tyF o (list_ok o.g) bt_list (by decide +kernel) E.z_list (sa_cons (w_lv o 5 (by decide +kernel)) (sa_nil) rfl) rfl rfl)) (sk_nil)) rfl rfl) (w_lv o 6 (by decide +kernel)) (nomark _))))) (ss_one (ss_ret (se_bl))) (ss_nil)) (ss_one (ss_if (SW.st (sw_or (st_not (st_val (w_call o E.cf__law_good_2 (by decide +kernel) (sa_cons (w_lv o 2 (by decide +kernel)) (sa_cons (w_lv o 4 (by decide +kernel)) (sa_nil) rfl) rfl) (sk_nil) rfl rfl) (fun _ => rfl))) (sw_or (st_not (st_val (w_call o E.cf__law_good_2 (by decide +kernel) (sa_cons (w_lv o 2 (by decide +kernel)) (sa_cons (w_bin o (w_cut o (w_lv o 4 (by decide +kernel)) (so_none) (so_some (se_int))) (se_int)) (sa_nil) rfl) rfl) (sk_nil) rfl rfl) (fun _ => rfl))) (sw_or1 (st_not (st_val (w_call o E.cf__law_good_2 (by decide +kernel) (sa_cons (w_lv o 2 (by decide +kernel)) (sa_cons (w_cut o (w_lv o 4 (by decide +kernel)) (so_none) (so_some (se_int))) (sa_nil) rfl) rfl) (sk_nil) rfl rfl) (fun _ => rfl))))))) (ss_one (ss_ret (se_bl))) (ss_nil))))))) (fun _ => rfl)))) (fun _ => rfl)) (ss_one (ss_ret (se_and (w_cmp o (w_call o E.cf_spread_of_1 (by decide +kernel) (sa_cons (se_new (sf_lst (sa_nil))) (sa_nil) rfl) (sk_nil) rfl rfl) (se_tup (sa_cons (se_int) (sa_cons (se_int) (sa_nil) rfl) rfl)) (nomark _)) (se_and (w_cmp o (w_call o E.cf_spread_of_1 (by decide +kernel) (sa_cons (se_new (sf_lst (sa_cons (se_int) (sa_nil) rfl))) (sa_nil) rfl) (sk_nil) rfl rfl) (se_tup (sa_cons (se_int) (sa_cons (se_int) (sa_nil) rfl) rfl)) (nomark _)) (se_one (w_cmp o (w_call o E.cf_spread_of_1 (by decide +kernel) (sa_cons (se_new (sf_lst (sa_cons (se_int) (sa_cons (se_int) (sa_nil) rfl) rfl))) (sa_nil) rfl) (sk_nil) rfl rfl) (se_tup (sa_cons (se_int) (sa_cons (se_int) (sa_nil) rfl) rfl)) (nomark _)))))))
end
structure Img (K : PySem.W.Frag) (mg : Str → Option Value) (wo : World) where
  f1 : Addr
  fd1 : FuncData
  F1 : FunD K "is_whole" "is_whole" (defArgs s_is_whole) (defBody s_is_whole) (defScope s_is_whole) [] [] f1 fd1
  g1 : mg "is_whole" = some (.ref f1)
  f2 : Addr
  fd2 : FuncData
  F2 : FunD K "is_within" "is_within" (defArgs s_is_within) (defBody s_is_within) (defScope s_is_within) [] [] f2 fd2
  g2 : mg "is_within" = some (.ref f2)
  f3 : Addr
  fd3 : FuncData
  F3 : FunD K "common_part" "common_part" (defArgs s_common_part) (defBody s_common_part) (defScope s_common_part) [] [] f3 fd3
  g3 : mg "common_part" = some (.ref f3)
  f4 : Addr
  fd4 : FuncData
  F4 : FunD K "lowest" "lowest" (defArgs s_lowest) (defBody s_lowest) (defScope s_lowest) [] [] f4 fd4
  g4 : mg "lowest" = some (.ref f4)
  f5 : Addr
  fd5 : FuncData
  F5 : FunD K "is_ratio" "is_ratio" (defArgs s_is_ratio) (defBody s_is_ratio) (defScope s_is_ratio) [] [] f5 fd5
  g5 : mg "is_ratio" = some (.ref f5)
  f6 : Addr
  fd6 : FuncData
  F6 : FunD K "held" "held" (defArgs s_held) (defBody s_held) (defScope s_held) [] [] f6 fd6
  g6 : mg "held" = some (.ref f6)
  f7 : Addr
  fd7 : FuncData
  F7 : FunD K "ratio_plus" "ratio_plus" (defArgs s_ratio_plus) (defBody s_ratio_plus) (defScope s_ratio_plus) [] [] f7 fd7
  g7 : mg "ratio_plus" = some (.ref f7)
  f8 : Addr
  fd8 : FuncData
  F8 : FunD K "ratio_minus" "ratio_minus" (defArgs s_ratio_minus) (defBody s_ratio_minus) (defScope s_ratio_minus) [] [] f8 fd8
  g8 : mg "ratio_minus" = some (.ref f8)
  f9 : Addr
  fd9 : FuncData
  F9 : FunD K "ratio_times" "ratio_times" (defArgs s_ratio_times) (defBody s_ratio_times) (defScope s_ratio_times) [] [] f9 fd9
  g9 : mg "ratio_times" = some (.ref f9)
  f10 : Addr
  fd10 : FuncData
  F10 : FunD K "ratio_over" "ratio_over" (defArgs s_ratio_over) (defBody s_ratio_over) (defScope s_ratio_over) [] [] f10 fd10
  g10 : mg "ratio_over" = some (.ref f10)
  f11 : Addr
  fd11 : FuncData
  F11 : FunD K "worked" "worked" (defArgs s_worked) (defBody s_worked) (defScope s_worked) [] [] f11 fd11
  g11 : mg "worked" = some (.ref f11)
  f12 : Addr
  fd12 : FuncData
  F12 : FunD K "spread_of" "spread_of" (defArgs s_spread_of) (defBody s_spread_of) (defScope s_spread_of) [] [] f12 fd12
  g12 : mg "spread_of" = some (.ref f12)
  f13 : Addr
  fd13 : FuncData
  F13 : FunD K "labels_of" "labels_of" (defArgs s_labels_of) (defBody s_labels_of) (defScope s_labels_of) [] [] f13 fd13
  g13 : mg "labels_of" = some (.ref f13)
  f14 : Addr
  fd14 : FuncData
  F14 : FunD K "leaf_of" "leaf_of" (defArgs s_leaf_of) (defBody s_leaf_of) (defScope s_leaf_of) [] [] f14 fd14
  g14 : mg "leaf_of" = some (.ref f14)
  f15 : Addr
  fd15 : FuncData
  F15 : FunD K "is_yes" "is_yes" (defArgs s_is_yes) (defBody s_is_yes) (defScope s_is_yes) [] [] f15 fd15
  g15 : mg "is_yes" = some (.ref f15)
  f16 : Addr
  fd16 : FuncData
  F16 : FunD K "rows_parted" "rows_parted" (defArgs s_rows_parted) (defBody s_rows_parted) (defScope s_rows_parted) [] [] f16 fd16
  g16 : mg "rows_parted" = some (.ref f16)
  f17 : Addr
  fd17 : FuncData
  F17 : FunD K "rising_numbers" "rising_numbers" (defArgs s_rising_numbers) (defBody s_rising_numbers) (defScope s_rising_numbers) [] [] f17 fd17
  g17 : mg "rising_numbers" = some (.ref f17)
  f18 : Addr
  fd18 : FuncData
  F18 : FunD K "tests_of" "tests_of" (defArgs s_tests_of) (defBody s_tests_of) (defScope s_tests_of) [] [] f18 fd18
  g18 : mg "tests_of" = some (.ref f18)
  f19 : Addr
  fd19 : FuncData
  F19 : FunD K "best_test" "best_test" (defArgs s_best_test) (defBody s_best_test) (defScope s_best_test) [] [] f19 fd19
  g19 : mg "best_test" = some (.ref f19)
  f20 : Addr
  fd20 : FuncData
  F20 : FunD K "tree_of" "tree_of" (defArgs s_tree_of) (defBody s_tree_of) (defScope s_tree_of) [] [("deep", .int 2)] f20 fd20
  g20 : mg "tree_of" = some (.ref f20)
  f21 : Addr
  fd21 : FuncData
  F21 : FunD K "is_tree_on" "is_tree_on" (defArgs s_is_tree_on) (defBody s_is_tree_on) (defScope s_is_tree_on) [] [] f21 fd21
  g21 : mg "is_tree_on" = some (.ref f21)
  f22 : Addr
  fd22 : FuncData
  F22 : FunD K "is_tree" "is_tree" (defArgs s_is_tree) (defBody s_is_tree) (defScope s_is_tree) [] [] f22 fd22
  g22 : mg "is_tree" = some (.ref f22)
  f23 : Addr
  fd23 : FuncData
  F23 : FunD K "spread_in" "spread_in" (defArgs s_spread_in) (defBody s_spread_in) (defScope s_spread_in) [] [] f23 fd23
  g23 : mg "spread_in" = some (.ref f23)
  f24 : Addr
  fd24 : FuncData
  F24 : FunD K "is_good" "is_good" (defArgs s_is_good) (defBody s_is_good) (defScope s_is_good) [] [] f24 fd24
  g24 : mg "is_good" = some (.ref f24)
  f25 : Addr
  fd25 : FuncData
  F25 : FunD K "_law_bag" "_law_bag" (defArgs s__law_bag) (defBody s__law_bag) (defScope s__law_bag) [] [] f25 fd25
  g25 : mg "_law_bag" = some (.ref f25)
  f26 : Addr
  fd26 : FuncData
  F26 : FunD K "_law_take" "_law_take" (defArgs s__law_take) (defBody s__law_take) (defScope s__law_take) [] [] f26 fd26
  g26 : mg "_law_take" = some (.ref f26)
  f27 : Addr
  fd27 : FuncData
  F27 : FunD K "_law_ratio" "_law_ratio" (defArgs s__law_ratio) (defBody s__law_ratio) (defScope s__law_ratio) [] [] f27 fd27
  g27 : mg "_law_ratio" = some (.ref f27)
  f28 : Addr
  fd28 : FuncData
  F28 : FunD K "_law_less" "_law_less" (defArgs s__law_less) (defBody s__law_less) (defScope s__law_less) [] [] f28 fd28
  g28 : mg "_law_less" = some (.ref f28)
  f29 : Addr
  fd29 : FuncData
  F29 : FunD K "_law_number" "_law_number" (defArgs s__law_number) (defBody s__law_number) (defScope s__law_number) [] [] f29 fd29
  g29 : mg "_law_number" = some (.ref f29)
  f30 : Addr
  fd30 : FuncData
  F30 : FunD K "_law_rows" "_law_rows" (defArgs s__law_rows) (defBody s__law_rows) (defScope s__law_rows) [] [] f30 fd30
  g30 : mg "_law_rows" = some (.ref f30)
  f31 : Addr
  fd31 : FuncData
  F31 : FunD K "_law_spread" "_law_spread" (defArgs s__law_spread) (defBody s__law_spread) (defScope s__law_spread) [] [] f31 fd31
  g31 : mg "_law_spread" = some (.ref f31)
  f32 : Addr
  fd32 : FuncData
  F32 : FunD K "_law_both" "_law_both" (defArgs s__law_both) (defBody s__law_both) (defScope s__law_both) [] [] f32 fd32
  g32 : mg "_law_both" = some (.ref f32)
  f33 : Addr
  fd33 : FuncData
  F33 : FunD K "_law_cuts" "_law_cuts" (defArgs s__law_cuts) (defBody s__law_cuts) (defScope s__law_cuts) [] [] f33 fd33
  g33 : mg "_law_cuts" = some (.ref f33)
  f34 : Addr
  fd34 : FuncData
  F34 : FunD K "_law_sides" "_law_sides" (defArgs s__law_sides) (defBody s__law_sides) (defScope s__law_sides) [] [] f34 fd34
  g34 : mg "_law_sides" = some (.ref f34)
  f35 : Addr
  fd35 : FuncData
  F35 : FunD K "_law_labels" "_law_labels" (defArgs s__law_labels) (defBody s__law_labels) (defScope s__law_labels) [] [] f35 fd35
  g35 : mg "_law_labels" = some (.ref f35)
  f36 : Addr
  fd36 : FuncData
  F36 : FunD K "_law_spread_of" "_law_spread_of" (defArgs s__law_spread_of) (defBody s__law_spread_of) (defScope s__law_spread_of) [] [] f36 fd36
  g36 : mg "_law_spread_of" = some (.ref f36)
  f37 : Addr
  fd37 : FuncData
  F37 : FunD K "_law_test_spread" "_law_test_spread" (defArgs s__law_test_spread) (defBody s__law_test_spread) (defScope s__law_test_spread) [] [] f37 fd37
  g37 : mg "_law_test_spread" = some (.ref f37)
  f38 : Addr
  fd38 : FuncData
  F38 : FunD K "_law_least_right" "_law_least_right" (defArgs s__law_least_right) (defBody s__law_least_right) (defScope s__law_least_right) [] [] f38 fd38
  g38 : mg "_law_least_right" = some (.ref f38)
  f39 : Addr
  fd39 : FuncData
  F39 : FunD K "_law_good" "_law_good" (defArgs s__law_good) (defBody s__law_good) (defScope s__law_good) [] [] f39 fd39
  g39 : mg "_law_good" = some (.ref f39)
  f40 : Addr
  fd40 : FuncData
  F40 : FunD K "law" "law" (defArgs s_law) (defBody s_law) (defScope s_law) [] [] f40 fd40
  g40 : mg "law" = some (.ref f40)
  z_abs : mg "abs" = none
  z_all : mg "all" = none
  z_bool : mg "bool" = none
  z_int : mg "int" = none
  z_isinstance : mg "isinstance" = none
  z_len : mg "len" = none
  z_list : mg "list" = none
  z_max : mg "max" = none
  z_min : mg "min" = none
  z_range : mg "range" = none
  z_repr : mg "repr" = none
  z_str : mg "str" = none
  z_sum : mg "sum" = none
  z_tuple : mg "tuple" = none
  z_zip : mg "zip" = none
  k_LEAF : ∀ fa : Nat → Option Addr, ∀ P base k, KC ⟨P, wo, ⟨K, mg, fa⟩, base, k⟩ "LEAF" v_LEAF
  k_MOST_FLOORS : ∀ fa : Nat → Option Addr, ∀ P base k, KC ⟨P, wo, ⟨K, mg, fa⟩, base, k⟩ "MOST_FLOORS" v_MOST_FLOORS
  k_NOUGHT : ∀ fa : Nat → Option Addr, ∀ P base k, KC ⟨P, wo, ⟨K, mg, fa⟩, base, k⟩ "NOUGHT" v_NOUGHT
  k_TEST : ∀ fa : Nat → Option Addr, ∀ P base k, KC ⟨P, wo, ⟨K, mg, fa⟩, base, k⟩ "TEST" v_TEST
  T_WORKS : Addr
  m_WORKS : mg "WORKS" = some (.ref T_WORKS)
  e_WORKS_plus : KDct K wo T_WORKS "plus" (.ref f7)
  e_WORKS_minus : KDct K wo T_WORKS "minus" (.ref f8)
  e_WORKS_times : KDct K wo T_WORKS "times" (.ref f9)
  e_WORKS_over : KDct K wo T_WORKS "over" (.ref f10)
section
variable {K : PySem.W.Frag} {mg : Str → Option Value} {wo : World} {P : Program} {base : Heap} {k : Nat}
def faOf (I : Img K mg wo) : Nat → Option Addr
  | 1 => some I.f1
  | 2 => some I.f2
  | 3 => some I.f3
  | 4 => some I.f4
  | 5 => some I.f5
  | 6 => some I.f6
  | 7 => some I.f7
  | 8 => some I.f8
  | 9 => some I.f9
  | 10 => some I.f10
  | 11 => some I.f11
  | 12 => some I.f12
  | 13 => some I.f13
  | 14 => some I.f14
  | 15 => some I.f15
  | 16 => some I.f16
  | 17 => some I.f17
  | 18 => some I.f18
  | 19 => some I.f19
  | 20 => some I.f20
  | 21 => some I.f21
  | 22 => some I.f22
  | 23 => some I.f23
  | 24 => some I.f24
  | 25 => some I.f25
  | 26 => some I.f26
  | 27 => some I.f27
  | 28 => some I.f28
  | 29 => some I.f29
  | 30 => some I.f30
  | 31 => some I.f31
  | 32 => some I.f32
  | 33 => some I.f33
  | 34 => some I.f34
  | 35 => some I.f35
  | 36 => some I.f36
  | 37 => some I.f37
  | 38 => some I.f38
  | 39 => some I.f39
  | 40 => some I.f40
  | _ => none
abbrev Img.M (I : Img K mg wo) : Im := ⟨K, mg, faOf I⟩
structure AllFn (I : Img K mg wo) (P : Program) (base : Heap) (k : Nat) : Prop where
  h1 : FnG P wo I.M base k I.f1 I.fd1 ["thing"] (tab k 1)
  h2 : FnG P wo I.M base k I.f2 I.fd2 ["thing", "least", "most"] (tab k 2)
  h3 : FnG P wo I.M base k I.f3 I.fd3 ["one", "other"] (tab k 3)
  h4 : FnG P wo I.M base k I.f4 I.fd4 ["top", "under"] (tab k 4)
  h5 : FnG P wo I.M base k I.f5 I.fd5 ["thing"] (tab k 5)
  h6 : FnG P wo I.M base k I.f6 I.fd6 ["one", "other"] (tab k 6)
  h7 : FnG P wo I.M base k I.f7 I.fd7 ["one", "other"] (tab k 7)
  h8 : FnG P wo I.M base k I.f8 I.fd8 ["one", "other"] (tab k 8)
  h9 : FnG P wo I.M base k I.f9 I.fd9 ["one", "other"] (tab k 9)
  h10 : FnG P wo I.M base k I.f10 I.fd10 ["one", "other"] (tab k 10)
  h11 : FnG P wo I.M base k I.f11 I.fd11 ["word", "one", "other"] (tab k 11)
  h12 : FnG P wo I.M base k I.f12 I.fd12 ["labels"] (tab k 12)
  h13 : FnG P wo I.M base k I.f13 I.fd13 ["rows"] (tab k 13)
  h14 : FnG P wo I.M base k I.f14 I.fd14 ["rows"] (tab k 14)
  h15 : FnG P wo I.M base k I.f15 I.fd15 ["numbers", "column", "cut"] (tab k 15)
  h16 : FnG P wo I.M base k I.f16 I.fd16 ["rows", "column", "cut"] (tab k 16)
  h17 : FnG P wo I.M base k I.f17 I.fd17 ["numbers"] (tab k 17)
  h18 : FnG P wo I.M base k I.f18 I.fd18 ["rows"] (tab k 18)
  h19 : FnG P wo I.M base k I.f19 I.fd19 ["rows"] (tab k 19)
  h20 : FnG P wo I.M base k I.f20 I.fd20 ["rows", "deep"] (tab k 20)
  h21 : FnG P wo I.M base k I.f21 I.fd21 ["thing", "columns", "floors"] (tab k 21)
  h22 : FnG P wo I.M base k I.f22 I.fd22 ["thing", "columns"] (tab k 22)
  h23 : FnG P wo I.M base k I.f23 I.fd23 ["tree", "rows"] (tab k 23)
  h24 : FnG P wo I.M base k I.f24 I.fd24 ["thing", "rows"] (tab k 24)
  h25 : FnG P wo I.M base k I.f25 I.fd25 ["_law_script", "_law_at"] (tab k 25)
  h26 : FnG P wo I.M base k I.f26 I.fd26 ["_law_bag_here", "_law_many"] (tab k 26)
  h27 : FnG P wo I.M base k I.f27 I.fd27 ["_law_top", "_law_under"] (tab k 27)
  h28 : FnG P wo I.M base k I.f28 I.fd28 ["_law_one", "_law_two"] (tab k 28)
  h29 : FnG P wo I.M base k I.f29 I.fd29 ["_law_bag_here"] (tab k 29)
  h30 : FnG P wo I.M base k I.f30 I.fd30 ["_law_bag_here", "_law_most"] (tab k 30)
  h31 : FnG P wo I.M base k I.f31 I.fd31 ["_law_marks"] (tab k 31)
  h32 : FnG P wo I.M base k I.f32 I.fd32 ["_law_one", "_law_two"] (tab k 32)
  h33 : FnG P wo I.M base k I.f33 I.fd33 ["_law_given"] (tab k 33)
  h34 : FnG P wo I.M base k I.f34 I.fd34 ["_law_lot", "_law_column", "_law_cut"] (tab k 34)
  h35 : FnG P wo I.M base k I.f35 I.fd35 ["_law_lot"] (tab k 35)
  h36 : FnG P wo I.M base k I.f36 I.fd36 ["_law_lot"] (tab k 36)
  h37 : FnG P wo I.M base k I.f37 I.fd37 ["_law_table", "_law_column", "_law_cut"] (tab k 37)
  h38 : FnG P wo I.M base k I.f38 I.fd38 ["_law_bag_here", "_law_table", "_law_told"] (tab k 38)
  h39 : FnG P wo I.M base k I.f39 I.fd39 ["_law_bag_here", "_law_table"] (tab k 39)
  h40 : FnG P wo I.M base k I.f40 I.fd40 ["_law_script"] (tab k 40)
theorem ev_of (I : Img K mg wo) (A : AllFn I P base k) : Ev ⟨P, wo, I.M, base, k⟩ (tab k) where
  z_abs := I.z_abs
  z_all := I.z_all
  z_bool := I.z_bool
  z_int := I.z_int
  z_isinstance := I.z_isinstance
  z_len := I.z_len
  z_list := I.z_list
  z_max := I.z_max
  z_min := I.z_min
  z_range := I.z_range
  z_repr := I.z_repr
  z_str := I.z_str
  z_sum := I.z_sum
  z_tuple := I.z_tuple
  z_zip := I.z_zip
  cf__law_bag_2 := ⟨I.f25, I.fd25, _, A.h25, (bnd_of I.F25 (fun _ _ _ _ _ _ us ws h1 h2 => match us, ws, h1, h2 with | [_, _], [], _, _ => rfl)), I.g25, I.F25.kp⟩
  cf__law_both_2 := ⟨I.f32, I.fd32, _, A.h32, (bnd_of I.F32 (fun _ _ _ _ _ _ us ws h1 h2 => match us, ws, h1, h2 with | [_, _], [], _, _ => rfl)), I.g32, I.F32.kp⟩
  cf__law_cuts_1 := ⟨I.f33, I.fd33, _, A.h33, (bnd_of I.F33 (fun _ _ _ _ _ _ us ws h1 h2 => match us, ws, h1, h2 with | [_], [], _, _ => rfl)), I.g33, I.F33.kp⟩
  cf__law_good_2 := ⟨I.f39, I.fd39, _, A.h39, (bnd_of I.F39 (fun _ _ _ _ _ _ us ws h1 h2 => match us, ws, h1, h2 with | [_, _], [], _, _ => rfl)), I.g39, I.F39.kp⟩
  cf__law_labels_1 := ⟨I.f35, I.fd35, _, A.h35, (bnd_of I.F35 (fun _ _ _ _ _ _ us ws h1 h2 => match us, ws, h1, h2 with | [_], [], _, _ => rfl)), I.g35, I.F35.kp⟩
  cf__law_least_right_3 := ⟨I.f38, I.fd38, _, A.h38, (bnd_of I.F38 (fun _ _ _ _ _ _ us ws h1 h2 => match us, ws, h1, h2 with | [_, _, _], [], _, _ => rfl)), I.g38, I.F38.kp⟩
  cf__law_less_2 := ⟨I.f28, I.fd28, _, A.h28, (bnd_of I.F28 (fun _ _ _ _ _ _ us ws h1 h2 => match us, ws, h1, h2 with | [_, _], [], _, _ => rfl)), I.g28, I.F28.kp⟩
  cf__law_number_1 := ⟨I.f29, I.fd29, _, A.h29, (bnd_of I.F29 (fun _ _ _ _ _ _ us ws h1 h2 => match us, ws, h1, h2 with | [_], [], _, _ => rfl)), I.g29, I.F29.kp⟩
  cf__law_ratio_2 := ⟨I.f27, I.fd27, _, A.h27, (bnd_of I.F27 (fun _ _ _ _ _ _ us ws h1 h2 => match us, ws, h1, h2 with | [_, _], [], _, _ => rfl)), I.g27, I.F27.kp⟩
  cf__law_rows_2 := ⟨I.f30, I.fd30, _, A.h30, (bnd_of I.F30 (fun _ _ _ _ _ _ us ws h1 h2 => match us, ws, h1, h2 with | [_, _], [], _, _ => rfl)), I.g30, I.F30.kp⟩
  cf__law_sides_3 := ⟨I.f34, I.fd34, _, A.h34, (bnd_of I.F34 (fun _ _ _ _ _ _ us ws h1 h2 => match us, ws, h1, h2 with | [_, _, _], [], _, _ => rfl)), I.g34, I.F34.kp⟩
  cf__law_spread_1 := ⟨I.f31, I.fd31, _, A.h31, (bnd_of I.F31 (fun _ _ _ _ _ _ us ws h1 h2 => match us, ws, h1, h2 with | [_], [], _, _ => rfl)), I.g31, I.F31.kp⟩
  cf__law_spread_of_1 := ⟨I.f36, I.fd36, _, A.h36, (bnd_of I.F36 (fun _ _ _ _ _ _ us ws h1 h2 => match us, ws, h1, h2 with | [_], [], _, _ => rfl)), I.g36, I.F36.kp⟩
  cf__law_take_2 := ⟨I.f26, I.fd26, _, A.h26, (bnd_of I.F26 (fun _ _ _ _ _ _ us ws h1 h2 => match us, ws, h1, h2 with | [_, _], [], _, _ => rfl)), I.g26, I.F26.kp⟩
  cf__law_test_spread_3 := ⟨I.f37, I.fd37, _, A.h37, (bnd_of I.F37 (fun _ _ _ _ _ _ us ws h1 h2 => match us, ws, h1, h2 with | [_, _, _], [], _, _ => rfl)), I.g37, I.F37.kp⟩
  cf_best_test_1 := ⟨I.f19, I.fd19, _, A.h19, (bnd_of I.F19 (fun _ _ _ _ _ _ us ws h1 h2 => match us, ws, h1, h2 with | [_], [], _, _ => rfl)), I.g19, I.F19.kp⟩
  cf_common_part_2 := ⟨I.f3, I.fd3, _, A.h3, (bnd_of I.F3 (fun _ _ _ _ _ _ us ws h1 h2 => match us, ws, h1, h2 with | [_, _], [], _, _ => rfl)), I.g3, I.F3.kp⟩
  cf_held_2 := ⟨I.f6, I.fd6, _, A.h6, (bnd_of I.F6 (fun _ _ _ _ _ _ us ws h1 h2 => match us, ws, h1, h2 with | [_, _], [], _, _ => rfl)), I.g6, I.F6.kp⟩
  cf_is_good_2 := ⟨I.f24, I.fd24, _, A.h24, (bnd_of I.F24 (fun _ _ _ _ _ _ us ws h1 h2 => match us, ws, h1, h2 with | [_, _], [], _, _ => rfl)), I.g24, I.F24.kp⟩
  cf_is_ratio_1 := ⟨I.f5, I.fd5, _, A.h5, (bnd_of I.F5 (fun _ _ _ _ _ _ us ws h1 h2 => match us, ws, h1, h2 with | [_], [], _, _ => rfl)), I.g5, I.F5.kp⟩
  cf_is_tree_2 := ⟨I.f22, I.fd22, _, A.h22, (bnd_of I.F22 (fun _ _ _ _ _ _ us ws h1 h2 => match us, ws, h1, h2 with | [_, _], [], _, _ => rfl)), I.g22, I.F22.kp⟩
  cf_is_tree_on_3 := ⟨I.f21, I.fd21, _, A.h21, (bnd_of I.F21 (fun _ _ _ _ _ _ us ws h1 h2 => match us, ws, h1, h2 with | [_, _, _], [], _, _ => rfl)), I.g21, I.F21.kp⟩
  cf_is_whole_1 := ⟨I.f1, I.fd1, _, A.h1, (bnd_of I.F1 (fun _ _ _ _ _ _ us ws h1 h2 => match us, ws, h1, h2 with | [_], [], _, _ => rfl)), I.g1, I.F1.kp⟩
  cf_is_within_3 := ⟨I.f2, I.fd2, _, A.h2, (bnd_of I.F2 (fun _ _ _ _ _ _ us ws h1 h2 => match us, ws, h1, h2 with | [_, _, _], [], _, _ => rfl)), I.g2, I.F2.kp⟩
  cf_is_yes_3 := ⟨I.f15, I.fd15, _, A.h15, (bnd_of I.F15 (fun _ _ _ _ _ _ us ws h1 h2 => match us, ws, h1, h2 with | [_, _, _], [], _, _ => rfl)), I.g15, I.F15.kp⟩
  cf_labels_of_1 := ⟨I.f13, I.fd13, _, A.h13, (bnd_of I.F13 (fun _ _ _ _ _ _ us ws h1 h2 => match us, ws, h1, h2 with | [_], [], _, _ => rfl)), I.g13, I.F13.kp⟩
  cf_leaf_of_1 := ⟨I.f14, I.fd14, _, A.h14, (bnd_of I.F14 (fun _ _ _ _ _ _ us ws h1 h2 => match us, ws, h1, h2 with | [_], [], _, _ => rfl)), I.g14, I.F14.kp⟩
  cf_lowest_2 := ⟨I.f4, I.fd4, _, A.h4, (bnd_of I.F4 (fun _ _ _ _ _ _ us ws h1 h2 => match us, ws, h1, h2 with | [_, _], [], _, _ => rfl)), I.g4, I.F4.kp⟩
  cf_ratio_plus_2 := ⟨I.f7, I.fd7, _, A.h7, (bnd_of I.F7 (fun _ _ _ _ _ _ us ws h1 h2 => match us, ws, h1, h2 with | [_, _], [], _, _ => rfl)), I.g7, I.F7.kp⟩
  cf_rising_numbers_1 := ⟨I.f17, I.fd17, _, A.h17, (bnd_of I.F17 (fun _ _ _ _ _ _ us ws h1 h2 => match us, ws, h1, h2 with | [_], [], _, _ => rfl)), I.g17, I.F17.kp⟩
  cf_rows_parted_3 := ⟨I.f16, I.fd16, _, A.h16, (bnd_of I.F16 (fun _ _ _ _ _ _ us ws h1 h2 => match us, ws, h1, h2 with | [_, _, _], [], _, _ => rfl)), I.g16, I.F16.kp⟩
  cf_spread_in_2 := ⟨I.f23, I.fd23, _, A.h23, (bnd_of I.F23 (fun _ _ _ _ _ _ us ws h1 h2 => match us, ws, h1, h2 with | [_, _], [], _, _ => rfl)), I.g23, I.F23.kp⟩
  cf_spread_of_0_labels := ⟨I.f12, I.fd12, _, A.h12, (bnd_of I.F12 (fun _ _ _ _ _ _ us ws h1 h2 => match us, ws, h1, h2 with | [], [_], _, _ => rfl)), I.g12, I.F12.kp⟩
  cf_spread_of_1 := ⟨I.f12, I.fd12, _, A.h12, (bnd_of I.F12 (fun _ _ _ _ _ _ us ws h1 h2 => match us, ws, h1, h2 with | [_], [], _, _ => rfl)), I.g12, I.F12.kp⟩
  cf_tests_of_1 := ⟨I.f18, I.fd18, _, A.h18, (bnd_of I.F18 (fun _ _ _ _ _ _ us ws h1 h2 => match us, ws, h1, h2 with | [_], [], _, _ => rfl)), I.g18, I.F18.kp⟩
  cf_tree_of_1_deep := ⟨I.f20, I.fd20, _, A.h20, (bnd_ofK I.F20 (fun _ _ _ _ _ _ us ws h1 h2 => match us, ws, h1, h2 with | [_], [_], _, _ => rfl)), I.g20, I.F20.kp⟩
  cf_worked_3 := ⟨I.f11, I.fd11, _, A.h11, (bnd_of I.F11 (fun _ _ _ _ _ _ us ws h1 h2 => match us, ws, h1, h2 with | [_, _, _], [], _, _ => rfl)), I.g11, I.F11.kp⟩
  t_WORKS := ⟨I.T_WORKS, I.m_WORKS, fun z d h => by
    unfold t_WORKS at h
    by_cases e : z = "plus"
    · rw [if_pos e] at h; cases h; subst e; exact ⟨_, I.e_WORKS_plus, fun w => .fn rfl⟩
    rw [if_neg e] at h; clear e
    by_cases e : z = "minus"
    · rw [if_pos e] at h; cases h; subst e; exact ⟨_, I.e_WORKS_minus, fun w => .fn rfl⟩
    rw [if_neg e] at h; clear e
    by_cases e : z = "times"
    · rw [if_pos e] at h; cases h; subst e; exact ⟨_, I.e_WORKS_times, fun w => .fn rfl⟩
    rw [if_neg e] at h; clear e
    by_cases e : z = "over"
    · rw [if_pos e] at h; cases h; subst e; exact ⟨_, I.e_WORKS_over, fun w => .fn rfl⟩
    rw [if_neg e] at h; clear e
    cases h⟩
  c_LEAF := I.k_LEAF _ _ _ _
  c_MOST_FLOORS := I.k_MOST_FLOORS _ _ _ _
  c_NOUGHT := I.k_NOUGHT _ _ _ _
  c_TEST := I.k_TEST _ _ _ _
  vf2 := fun qq f h1 h2 => by
    have h1 : qq ∈ [7, 8, 9, 10] := List.contains_iff_mem.mp h1
    simp only [List.mem_cons, List.not_mem_nil, or_false] at h1
    rcases h1 with rfl | rfl | rfl | rfl
    · have e : I.f7 = f := Option.some.inj h2
      subst e; exact ⟨I.fd7, _, A.h7, (bnd_of I.F7 (fun _ _ _ _ _ _ us ws h1 h2 => match us, ws, h1, h2 with | [_, _], [], _, _ => rfl)), I.F7.kp⟩
    · have e : I.f8 = f := Option.some.inj h2
      subst e; exact ⟨I.fd8, _, A.h8, (bnd_of I.F8 (fun _ _ _ _ _ _ us ws h1 h2 => match us, ws, h1, h2 with | [_, _], [], _, _ => rfl)), I.F8.kp⟩
    · have e : I.f9 = f := Option.some.inj h2
      subst e; exact ⟨I.fd9, _, A.h9, (bnd_of I.F9 (fun _ _ _ _ _ _ us ws h1 h2 => match us, ws, h1, h2 with | [_, _], [], _, _ => rfl)), I.F9.kp⟩
    · have e : I.f10 = f := Option.some.inj h2
      subst e; exact ⟨I.fd10, _, A.h10, (bnd_of I.F10 (fun _ _ _ _ _ _ us ws h1 h2 => match us, ws, h1, h2 with | [_, _], [], _, _ => rfl)), I.F10.kp⟩
theorem all_ok (I : Img K mg wo) : ∀ k, AllFn I P base k
  | 0 => ⟨fnG_0, fnG_0, fnG_0, fnG_0, fnG_0, fnG_0, fnG_0, fnG_0, fnG_0, fnG_0, fnG_0, fnG_0, fnG_0, fnG_0, fnG_0, fnG_0, fnG_0, fnG_0, fnG_0, fnG_0, fnG_0, fnG_0, fnG_0, fnG_0, fnG_0, fnG_0, fnG_0, fnG_0, fnG_0, fnG_0, fnG_0, fnG_0, fnG_0, fnG_0, fnG_0, fnG_0, fnG_0, fnG_0, fnG_0, fnG_0⟩
  | k + 1 => by
    have E := ev_of I (all_ok I k)
    exact ⟨fnG_D I.F1 sc_is_whole fun X o => d_is_whole E o, fnG_D I.F2 sc_is_within fun X o => d_is_within E o, fnG_D I.F3 sc_common_part fun X o => d_common_part E o, fnG_D I.F4 sc_lowest fun X o => d_lowest E o, fnG_D I.F5 sc_is_ratio fun X o => d_is_ratio E o, fnG_D I.F6 sc_held fun X o => d_held E o, fnG_D I.F7 sc_ratio_plus fun X o => d_ratio_plus E o, fnG_D I.F8 sc_ratio_minus fun X o => d_ratio_minus E o, fnG_D I.F9 sc_ratio_times fun X o => d_ratio_times E o, fnG_D I.F10 sc_ratio_over fun X o => d_ratio_over E o, fnG_D I.F11 sc_worked fun X o => d_worked E o, fnG_D I.F12 sc_spread_of fun X o => d_spread_of E o, fnG_D I.F13 sc_labels_of fun X o => d_labels_of E o, fnG_D I.F14 sc_leaf_of fun X o => d_leaf_of E o, fnG_D I.F15 sc_is_yes fun X o => d_is_yes E o, fnG_D I.F16 sc_rows_parted fun X o => d_rows_parted E o, fnG_D I.F17 sc_rising_numbers fun X o => d_rising_numbers E o, fnG_D I.F18 sc_tests_of fun X o => d_tests_of E o, fnG_D I.F19 sc_best_test fun X o => d_best_test E o, fnG_D I.F20 sc_tree_of fun X o => d_tree_of E o, fnG_D I.F21 sc_is_tree_on fun X o => d_is_tree_on E o, fnG_D I.F22 sc_is_tree fun X o => d_is_tree E o, fnG_D I.F23 sc_spread_in fun X o => d_spread_in E o, fnG_D I.F24 sc_is_good fun X o => d_is_good E o, fnG_D I.F25 sc__law_bag fun X o => d__law_bag E o, fnG_D I.F26 sc__law_take fun X o => d__law_take E o, fnG_D I.F27 sc__law_ratio fun X o => d__law_ratio E o, fnG_D I.F28 sc__law_less fun X o => d__law_less E o, fnG_D I.F29 sc__law_number fun X o => d__law_number E o, fnG_D I.F30 sc__law_rows fun X o => d__law_rows E o, fnG_D I.F31 sc__law_spread fun X o => d__law_spread E o, fnG_D I.F32 sc__law_both fun X o => d__law_both E o, fnG_D I.F33 sc__law_cuts fun X o => d__law_cuts E o, fnG_D I.F34 sc__law_sides fun X o => d__law_sides E o, fnG_D I.F35 sc__law_labels fun X o => d__law_labels E o, fnG_D I.F36 sc__law_spread_of fun X o => d__law_spread_of E o, fnG_D I.F37 sc__law_test_spread fun X o => d__law_test_spread E o, fnG_D I.F38 sc__law_least_right fun X o => d__law_least_right E o, fnG_D I.F39 sc__law_good fun X o => d__law_good E o, fnG_D I.F40 sc_law fun X o => d_law E o⟩
end
theorem all_mk {l : PySem.W.OpenLaw} {w : World} {K : PySem.W.Frag} {h : Heap} {mg : Str → Option Value} {fa : Addr} (X : K.In h) (G : h.Ns mainGlobals mg) (hfa : mg "law" = some (.ref fa))
    {f1 : Addr} {od1 an1 : Option Addr} {sl1 : Array (Option Value)} {oc1 kV1 dc1 pm1 cd1 ct1 : Value}
    {f2 : Addr} {od2 an2 : Option Addr} {sl2 : Array (Option Value)} {oc2 kV2 dc2 pm2 cd2 ct2 : Value}
    {f3 : Addr} {od3 an3 : Option Addr} {sl3 : Array (Option Value)} {oc3 kV3 dc3 pm3 cd3 ct3 : Value}
    {f4 : Addr} {od4 an4 : Option Addr} {sl4 : Array (Option Value)} {oc4 kV4 dc4 pm4 cd4 ct4 : Value}
    {f5 : Addr} {od5 an5 : Option Addr} {sl5 : Array (Option Value)} {oc5 kV5 dc5 pm5 cd5 ct5 : Value}
    {f6 : Addr} {od6 an6 : Option Addr} {sl6 : Array (Option Value)} {oc6 kV6 dc6 pm6 cd6 ct6 : Value}
    {f7 : Addr} {od7 an7 : Option Addr} {sl7 : Array (Option Value)} {oc7 kV7 dc7 pm7 cd7 ct7 : Value}
    {f8 : Addr} {od8 an8 : Option Addr} {sl8 : Array (Option Value)} {oc8 kV8 dc8 pm8 cd8 ct8 : Value}
    {f9 : Addr} {od9 an9 : Option Addr} {sl9 : Array (Option Value)} {oc9 kV9 dc9 pm9 cd9 ct9 : Value}
    {f10 : Addr} {od10 an10 : Option Addr} {sl10 : Array (Option Value)} {oc10 kV10 dc10 pm10 cd10 ct10 : Value}
    {f11 : Addr} {od11 an11 : Option Addr} {sl11 : Array (Option Value)} {oc11 kV11 dc11 pm11 cd11 ct11 : Value}
    {f12 : Addr} {od12 an12 : Option Addr} {sl12 : Array (Option Value)} {oc12 kV12 dc12 pm12 cd12 ct12 : Value}
    {f13 : Addr} {od13 an13 : Option Addr} {sl13 : Array (Option Value)} {oc13 kV13 dc13 pm13 cd13 ct13 : Value}
    {f14 : Addr} {od14 an14 : Option Addr} {sl14 : Array (Option Value)} {oc14 kV14 dc14 pm14 cd14 ct14 : Value}
    {f15 : Addr} {od15 an15 : Option Addr} {sl15 : Array (Option Value)} {oc15 kV15 dc15 pm15 cd15 ct15 : Value}
    {f16 : Addr} {od16 an16 : Option Addr} {sl16 : Array (Option Value)} {oc16 kV16 dc16 pm16 cd16 ct16 : Value}
    {f17 : Addr} {od17 an17 : Option Addr} {sl17 : Array (Option Value)} {oc17 kV17 dc17 pm17 cd17 ct17 : Value}
    {f18 : Addr} {od18 an18 : Option Addr} {sl18 : Array (Option Value)} {oc18 kV18 dc18 pm18 cd18 ct18 : Value}
    {f19 : Addr} {od19 an19 : Option Addr} {sl19 : Array (Option Value)} {oc19 kV19 dc19 pm19 cd19 ct19 : Value}
    {f20 : Addr} {od20 an20 : Option Addr} {sl20 : Array (Option Value)} {oc20 dc20 pm20 cd20 ct20 : Value}
    {kD20 : Addr} {kt20_deep : Tok}
    {f21 : Addr} {od21 an21 : Option Addr} {sl21 : Array (Option Value)} {oc21 kV21 dc21 pm21 cd21 ct21 : Value}
    {f22 : Addr} {od22 an22 : Option Addr} {sl22 : Array (Option Value)} {oc22 kV22 dc22 pm22 cd22 ct22 : Value}
    {f23 : Addr} {od23 an23 : Option Addr} {sl23 : Array (Option Value)} {oc23 kV23 dc23 pm23 cd23 ct23 : Value}
    {f24 : Addr} {od24 an24 : Option Addr} {sl24 : Array (Option Value)} {oc24 kV24 dc24 pm24 cd24 ct24 : Value}
    {f25 : Addr} {od25 an25 : Option Addr} {sl25 : Array (Option Value)} {oc25 kV25 dc25 pm25 cd25 ct25 : Value}
    {f26 : Addr} {od26 an26 : Option Addr} {sl26 : Array (Option Value)} {oc26 kV26 dc26 pm26 cd26 ct26 : Value}
    {f27 : Addr} {od27 an27 : Option Addr} {sl27 : Array (Option Value)} {oc27 kV27 dc27 pm27 cd27 ct27 : Value}
    {f28 : Addr} {od28 an28 : Option Addr} {sl28 : Array (Option Value)} {oc28 kV28 dc28 pm28 cd28 ct28 : Value}
    {f29 : Addr} {od29 an29 : Option Addr} {sl29 : Array (Option Value)} {oc29 kV29 dc29 pm29 cd29 ct29 : Value}
    {f30 : Addr} {od30 an30 : Option Addr} {sl30 : Array (Option Value)} {oc30 kV30 dc30 pm30 cd30 ct30 : Value}
    {f31 : Addr} {od31 an31 : Option Addr} {sl31 : Array (Option Value)} {oc31 kV31 dc31 pm31 cd31 ct31 : Value}
    {f32 : Addr} {od32 an32 : Option Addr} {sl32 : Array (Option Value)} {oc32 kV32 dc32 pm32 cd32 ct32 : Value}
    {f33 : Addr} {od33 an33 : Option Addr} {sl33 : Array (Option Value)} {oc33 kV33 dc33 pm33 cd33 ct33 : Value}
    {f34 : Addr} {od34 an34 : Option Addr} {sl34 : Array (Option Value)} {oc34 kV34 dc34 pm34 cd34 ct34 : Value}
    {f35 : Addr} {od35 an35 : Option Addr} {sl35 : Array (Option Value)} {oc35 kV35 dc35 pm35 cd35 ct35 : Value}
    {f36 : Addr} {od36 an36 : Option Addr} {sl36 : Array (Option Value)} {oc36 kV36 dc36 pm36 cd36 ct36 : Value}
    {f37 : Addr} {od37 an37 : Option Addr} {sl37 : Array (Option Value)} {oc37 kV37 dc37 pm37 cd37 ct37 : Value}
    {f38 : Addr} {od38 an38 : Option Addr} {sl38 : Array (Option Value)} {oc38 kV38 dc38 pm38 cd38 ct38 : Value}
    {f39 : Addr} {od39 an39 : Option Addr} {sl39 : Array (Option Value)} {oc39 kV39 dc39 pm39 cd39 ct39 : Value}
    {f40 : Addr} {od40 an40 : Option Addr} {sl40 : Array (Option Value)} {oc40 kV40 dc40 pm40 cd40 ct40 : Value}
    {t_LEAF : Tok}
    {t_MOST_FLOORS : Tok}
    {A_NOUGHT : Addr} {od_NOUGHT : Option Addr} {its_NOUGHT : Array Value} {n_NOUGHT : Nat} {sl_NOUGHT : Array (Option Value)}
    {t_TEST : Tok}
    {T_WORKS : Addr} {es_WORKS : Array DictEntry} {n_WORKS : Nat}
    (a1 : PySem.W.nsIn K mainGlobals "is_whole" = some (some (.ref f1))) (l1 : K.lookup f1 = some ⟨oc1, od1, .func (PySem.W.fnOf "is_whole" "is_whole" (defArgs s_is_whole) (defBody s_is_whole) (defScope s_is_whole) .none kV1 dc1 pm1 an1 cd1 ct1), sl1⟩) (c1 : PySem.W.codeIn K cd1 "is_whole" = true) (k1 : PySem.W.keepIn K (.ref f1) = true)
    (a2 : PySem.W.nsIn K mainGlobals "is_within" = some (some (.ref f2))) (l2 : K.lookup f2 = some ⟨oc2, od2, .func (PySem.W.fnOf "is_within" "is_within" (defArgs s_is_within) (defBody s_is_within) (defScope s_is_within) .none kV2 dc2 pm2 an2 cd2 ct2), sl2⟩) (c2 : PySem.W.codeIn K cd2 "is_within" = true) (k2 : PySem.W.keepIn K (.ref f2) = true)
    (a3 : PySem.W.nsIn K mainGlobals "common_part" = some (some (.ref f3))) (l3 : K.lookup f3 = some ⟨oc3, od3, .func (PySem.W.fnOf "common_part" "common_part" (defArgs s_common_part) (defBody s_common_part) (defScope s_common_part) .none kV3 dc3 pm3 an3 cd3 ct3), sl3⟩) (c3 : PySem.W.codeIn K cd3 "common_part" = true) (k3 : PySem.W.keepIn K (.ref f3) = true)
    (a4 : PySem.W.nsIn K mainGlobals "lowest" = some (some (.ref f4))) (l4 : K.lookup f4 = some ⟨oc4, od4, .func (PySem.W.fnOf "lowest" "lowest" (defArgs s_lowest) (defBody s_lowest) (defScope s_lowest) .none kV4 dc4 pm4 an4 cd4 ct4), sl4⟩) (c4 : PySem.W.codeIn K cd4 "lowest" = true) (k4 : PySem.W.keepIn K (.ref f4) = true)
    (a5 : PySem.W.nsIn K mainGlobals "is_ratio" = some (some (.ref f5))) (l5 : K.lookup f5 = some ⟨oc5, od5, .func (PySem.W.fnOf "is_ratio" "is_ratio" (defArgs s_is_ratio) (defBody s_is_ratio) (defScope s_is_ratio) .none kV5 dc5 pm5 an5 cd5 ct5), sl5⟩) (c5 : PySem.W.codeIn K cd5 "is_ratio" = true) (k5 : PySem.W.keepIn K (.ref f5) = true)
    (a6 : PySem.W.nsIn K mainGlobals "held" = some (some (.ref f6))) (l6 : K.lookup f6 = some ⟨oc6, od6, .func (PySem.W.fnOf "held" "held" (defArgs s_held) (defBody s_held) (defScope s_held) .none kV6 dc6 pm6 an6 cd6 ct6), sl6⟩) (c6 : PySem.W.codeIn K cd6 "held" = true) (k6 : PySem.W.keepIn K (.ref f6) = true)
    (a7 : PySem.W.nsIn K mainGlobals "ratio_plus" = some (some (.ref f7))) (l7 : K.lookup f7 = some ⟨oc7, od7, .func (PySem.W.fnOf "ratio_plus" "ratio_plus" (defArgs s_ratio_plus) (defBody s_ratio_plus) (defScope s_ratio_plus) .none kV7 dc7 pm7 an7 cd7 ct7), sl7⟩) (c7 : PySem.W.codeIn K cd7 "ratio_plus" = true) (k7 : PySem.W.keepIn K (.ref f7) = true)
    (a8 : PySem.W.nsIn K mainGlobals "ratio_minus" = some (some (.ref f8))) (l8 : K.lookup f8 = some ⟨oc8, od8, .func (PySem.W.fnOf "ratio_minus" "ratio_minus" (defArgs s_ratio_minus) (defBody s_ratio_minus) (defScope s_ratio_minus) .none kV8 dc8 pm8 an8 cd8 ct8), sl8⟩) (c8 : PySem.W.codeIn K cd8 "ratio_minus" = true) (k8 : PySem.W.keepIn K (.ref f8) = true)
    (a9 : PySem.W.nsIn K mainGlobals "ratio_times" = some (some (.ref f9))) (l9 : K.lookup f9 = some ⟨oc9, od9, .func (PySem.W.fnOf "ratio_times" "ratio_times" (defArgs s_ratio_times) (defBody s_ratio_times) (defScope s_ratio_times) .none kV9 dc9 pm9 an9 cd9 ct9), sl9⟩) (c9 : PySem.W.codeIn K cd9 "ratio_times" = true) (k9 : PySem.W.keepIn K (.ref f9) = true)
    (a10 : PySem.W.nsIn K mainGlobals "ratio_over" = some (some (.ref f10))) (l10 : K.lookup f10 = some ⟨oc10, od10, .func (PySem.W.fnOf "ratio_over" "ratio_over" (defArgs s_ratio_over) (defBody s_ratio_over) (defScope s_ratio_over) .none kV10 dc10 pm10 an10 cd10 ct10), sl10⟩) (c10 : PySem.W.codeIn K cd10 "ratio_over" = true) (k10 : PySem.W.keepIn K (.ref f10) = true)
    (a11 : PySem.W.nsIn K mainGlobals "worked" = some (some (.ref f11))) (l11 : K.lookup f11 = some ⟨oc11, od11, .func (PySem.W.fnOf "worked" "worked" (defArgs s_worked) (defBody s_worked) (defScope s_worked) .none kV11 dc11 pm11 an11 cd11 ct11), sl11⟩) (c11 : PySem.W.codeIn K cd11 "worked" = true) (k11 : PySem.W.keepIn K (.ref f11) = true)
    (a12 : PySem.W.nsIn K mainGlobals "spread_of" = some (some (.ref f12))) (l12 : K.lookup f12 = some ⟨oc12, od12, .func (PySem.W.fnOf "spread_of" "spread_of" (defArgs s_spread_of) (defBody s_spread_of) (defScope s_spread_of) .none kV12 dc12 pm12 an12 cd12 ct12), sl12⟩) (c12 : PySem.W.codeIn K cd12 "spread_of" = true) (k12 : PySem.W.keepIn K (.ref f12) = true)
    (a13 : PySem.W.nsIn K mainGlobals "labels_of" = some (some (.ref f13))) (l13 : K.lookup f13 = some ⟨oc13, od13, .func (PySem.W.fnOf "labels_of" "labels_of" (defArgs s_labels_of) (defBody s_labels_of) (defScope s_labels_of) .none kV13 dc13 pm13 an13 cd13 ct13), sl13⟩) (c13 : PySem.W.codeIn K cd13 "labels_of" = true) (k13 : PySem.W.keepIn K (.ref f13) = true)
    (a14 : PySem.W.nsIn K mainGlobals "leaf_of" = some (some (.ref f14))) (l14 : K.lookup f14 = some ⟨oc14, od14, .func (PySem.W.fnOf "leaf_of" "leaf_of" (defArgs s_leaf_of) (defBody s_leaf_of) (defScope s_leaf_of) .none kV14 dc14 pm14 an14 cd14 ct14), sl14⟩) (c14 : PySem.W.codeIn K cd14 "leaf_of" = true) (k14 : PySem.W.keepIn K (.ref f14) = true)
    (a15 : PySem.W.nsIn K mainGlobals "is_yes" = some (some (.ref f15))) (l15 : K.lookup f15 = some ⟨oc15, od15, .func (PySem.W.fnOf "is_yes" "is_yes" (defArgs s_is_yes) (defBody s_is_yes) (defScope s_is_yes) .none kV15 dc15 pm15 an15 cd15 ct15), sl15⟩) (c15 : PySem.W.codeIn K cd15 "is_yes" = true) (k15 : PySem.W.keepIn K (.ref f15) = true)
    (a16 : PySem.W.nsIn K mainGlobals "rows_parted" = some (some (.ref f16))) (l16 : K.lookup f16 = some ⟨oc16, od16, .func (PySem.W.fnOf "rows_parted" "rows_parted" (defArgs s_rows_parted) (defBody s_rows_parted) (defScope s_rows_parted) .none kV16 dc16 pm16 an16 cd16 ct16), sl16⟩) (c16 : PySem.W.codeIn K cd16 "rows_parted" = true) (k16 : PySem.W.keepIn K (.ref f16) = true)
    (a17 : PySem.W.nsIn K mainGlobals "rising_numbers" = some (some (.ref f17))) (l17 : K.lookup f17 = some ⟨oc17, od17, .func (PySem.W.fnOf "rising_numbers" "rising_numbers" (defArgs s_rising_numbers) (defBody s_rising_numbers) (defScope s_rising_numbers) .none kV17 dc17 pm17 an17 cd17 ct17), sl17⟩) (c17 : PySem.W.codeIn K cd17 "rising_numbers" = true) (k17 : PySem.W.keepIn K (.ref f17) = true)
    (a18 : PySem.W.nsIn K mainGlobals "tests_of" = some (some (.ref f18))) (l18 : K.lookup f18 = some ⟨oc18, od18, .func (PySem.W.fnOf "tests_of" "tests_of" (defArgs s_tests_of) (defBody s_tests_of) (defScope s_tests_of) .none kV18 dc18 pm18 an18 cd18 ct18), sl18⟩) (c18 : PySem.W.codeIn K cd18 "tests_of" = true) (k18 : PySem.W.keepIn K (.ref f18) = true)
    (a19 : PySem.W.nsIn K mainGlobals "best_test" = some (some (.ref f19))) (l19 : K.lookup f19 = some ⟨oc19, od19, .func (PySem.W.fnOf "best_test" "best_test" (defArgs s_best_test) (defBody s_best_test) (defScope s_best_test) .none kV19 dc19 pm19 an19 cd19 ct19), sl19⟩) (c19 : PySem.W.codeIn K cd19 "best_test" = true) (k19 : PySem.W.keepIn K (.ref f19) = true)
    (a20 : PySem.W.nsIn K mainGlobals "tree_of" = some (some (.ref f20))) (l20 : K.lookup f20 = some ⟨oc20, od20, .func (PySem.W.fnOf "tree_of" "tree_of" (defArgs s_tree_of) (defBody s_tree_of) (defScope s_tree_of) .none (.ref kD20) dc20 pm20 an20 cd20 ct20), sl20⟩) (c20 : PySem.W.codeIn K cd20 "tree_of" = true) (k20 : PySem.W.keepIn K (.ref f20) = true)
    (kd20_deep : PySem.W.nsIn K kD20 "deep" = some (some (.int 2 kt20_deep)))
    (a21 : PySem.W.nsIn K mainGlobals "is_tree_on" = some (some (.ref f21))) (l21 : K.lookup f21 = some ⟨oc21, od21, .func (PySem.W.fnOf "is_tree_on" "is_tree_on" (defArgs s_is_tree_on) (defBody s_is_tree_on) (defScope s_is_tree_on) .none kV21 dc21 pm21 an21 cd21 ct21), sl21⟩) (c21 : PySem.W.codeIn K cd21 "is_tree_on" = true) (k21 : PySem.W.keepIn K (.ref f21) = true)
    (a22 : PySem.W.nsIn K mainGlobals "is_tree" = some (some (.ref f22))) (l22 : K.lookup f22 = some ⟨oc22, od22, .func (PySem.W.fnOf "is_tree" "is_tree" (defArgs s_is_tree) (defBody s_is_tree) (defScope s_is_tree) .none kV22 dc22 pm22 an22 cd22 ct22), sl22⟩) (c22 : PySem.W.codeIn K cd22 "is_tree" = true) (k22 : PySem.W.keepIn K (.ref f22) = true)
    (a23 : PySem.W.nsIn K mainGlobals "spread_in" = some (some (.ref f23))) (l23 : K.lookup f23 = some ⟨oc23, od23, .func (PySem.W.fnOf "spread_in" "spread_in" (defArgs s_spread_in) (defBody s_spread_in) (defScope s_spread_in) .none kV23 dc23 pm23 an23 cd23 ct23), sl23⟩) (c23 : PySem.W.codeIn K cd23 "spread_in" = true) (k23 : PySem.W.keepIn K (.ref f23) = true)
    (a24 : PySem.W.nsIn K mainGlobals "is_good" = some (some (.ref f24))) (l24 : K.lookup f24 = some ⟨oc24, od24, .func (PySem.W.fnOf "is_good" "is_good" (defArgs s_is_good) (defBody s_is_good) (defScope s_is_good) .none kV24 dc24 pm24 an24 cd24 ct24), sl24⟩) (c24 : PySem.W.codeIn K cd24 "is_good" = true) (k24 : PySem.W.keepIn K (.ref f24) = true)
    (a25 : PySem.W.nsIn K mainGlobals "_law_bag" = some (some (.ref f25))) (l25 : K.lookup f25 = some ⟨oc25, od25, .func (PySem.W.fnOf "_law_bag" "_law_bag" (defArgs s__law_bag) (defBody s__law_bag) (defScope s__law_bag) .none kV25 dc25 pm25 an25 cd25 ct25), sl25⟩) (c25 : PySem.W.codeIn K cd25 "_law_bag" = true) (k25 : PySem.W.keepIn K (.ref f25) = true)
    (a26 : PySem.W.nsIn K mainGlobals "_law_take" = some (some (.ref f26))) (l26 : K.lookup f26 = some ⟨oc26, od26, .func (PySem.W.fnOf "_law_take" "_law_take" (defArgs s__law_take) (defBody s__law_take) (defScope s__law_take) .none kV26 dc26 pm26 an26 cd26 ct26), sl26⟩) (c26 : PySem.W.codeIn K cd26 "_law_take" = true) (k26 : PySem.W.keepIn K (.ref f26) = true)
    (a27 : PySem.W.nsIn K mainGlobals "_law_ratio" = some (some (.ref f27))) (l27 : K.lookup f27 = some ⟨oc27, od27, .func (PySem.W.fnOf "_law_ratio" "_law_ratio" (defArgs s__law_ratio) (defBody s__law_ratio) (defScope s__law_ratio) .none kV27 dc27 pm27 an27 cd27 ct27), sl27⟩) (c27 : PySem.W.codeIn K cd27 "_law_ratio" = true) (k27 : PySem.W.keepIn K (.ref f27) = true)
    (a28 : PySem.W.nsIn K mainGlobals "_law_less" = some (some (.ref f28))) (l28 : K.lookup f28 = some ⟨oc28, od28, .func (PySem.W.fnOf "_law_less" "_law_less" (defArgs s__law_less) (defBody s__law_less) (defScope s__law_less) .none kV28 dc28 pm28 an28 cd28 ct28), sl28⟩) (c28 : PySem.W.codeIn K cd28 "_law_less" = true) (k28 : PySem.W.keepIn K (.ref f28) = true)
    (a29 : PySem.W.nsIn K mainGlobals "_law_number" = some (some (.ref f29))) (l29 : K.lookup f29 = some ⟨oc29, od29, .func (PySem.W.fnOf "_law_number" "_law_number" (defArgs s__law_number) (defBody s__law_number) (defScope s__law_number) .none kV29 dc29 pm29 an29 cd29 ct29), sl29⟩) (c29 : PySem.W.codeIn K cd29 "_law_number" = true) (k29 : PySem.W.keepIn K (.ref f29) = true)
    (a30 : PySem.W.nsIn K mainGlobals "_law_rows" = some (some (.ref f30))) (l30 : K.lookup f30 = some ⟨oc30, od30, .func (PySem.W.fnOf "_law_rows" "_law_rows" (defArgs s__law_rows) (defBody s__law_rows) (defScope s__law_rows) .none kV30 dc30 pm30 an30 cd30 ct30), sl30⟩) (c30 : PySem.W.codeIn K cd30 "_law_rows" = true) (k30 : PySem.W.keepIn K (.ref f30) = true)
    (a31 : PySem.W.nsIn K mainGlobals "_law_spread" = some (some (.ref f31))) (l31 : K.lookup f31 = some ⟨oc31, od31, .func (PySem.W.fnOf "_law_spread" "_law_spread" (defArgs s__law_spread) (defBody s__law_spread) (defScope s__law_spread) .none kV31 dc31 pm31 an31 cd31 ct31), sl31⟩) (c31 : PySem.W.codeIn K cd31 "_law_spread" = true) (k31 : PySem.W.keepIn K (.ref f31) = true)
    (a32 : PySem.W.nsIn K mainGlobals "_law_both" = some (some (.ref f32))) (l32 : K.lookup f32 = some ⟨oc32, od32, .func (PySem.W.fnOf "_law_both" "_law_both" (defArgs s__law_both) (defBody s__law_both) (defScope s__law_both) .none kV32 dc32 pm32 an32 cd32 ct32), sl32⟩) (c32 : PySem.W.codeIn K cd32 "_law_both" = true) (k32 : PySem.W.keepIn K (.ref f32) = true)
    (a33 : PySem.W.nsIn K mainGlobals "_law_cuts" = some (some (.ref f33))) (l33 : K.lookup f33 = some ⟨oc33, od33, .func (PySem.W.fnOf "_law_cuts" "_law_cuts" (defArgs s__law_cuts) (defBody s__law_cuts) (defScope s__law_cuts) .none kV33 dc33 pm33 an33 cd33 ct33), sl33⟩) (c33 : PySem.W.codeIn K cd33 "_law_cuts" = true) (k33 : PySem.W.keepIn K (.ref f33) = true)
    (a34 : PySem.W.nsIn K mainGlobals "_law_sides" = some (some (.ref f34))) (l34 : K.lookup f34 = some ⟨oc34, od34, .func (PySem.W.fnOf "_law_sides" "_law_sides" (defArgs s__law_sides) (defBody s__law_sides) (defScope s__law_sides) .none kV34 dc34 pm34 an34 cd34 ct34), sl34⟩) (c34 : PySem.W.codeIn K cd34 "_law_sides" = true) (k34 : PySem.W.keepIn K (.ref f34) = true)
    (a35 : PySem.W.nsIn K mainGlobals "_law_labels" = some (some (.ref f35))) (l35 : K.lookup f35 = some ⟨oc35, od35, .func (PySem.W.fnOf "_law_labels" "_law_labels" (defArgs s__law_labels) (defBody s__law_labels) (defScope s__law_labels) .none kV35 dc35 pm35 an35 cd35 ct35), sl35⟩) (c35 : PySem.W.codeIn K cd35 "_law_labels" = true) (k35 : PySem.W.keepIn K (.ref f35) = true)
    (a36 : PySem.W.nsIn K mainGlobals "_law_spread_of" = some (some (.ref f36))) (l36 : K.lookup f36 = some ⟨oc36, od36, .func (PySem.W.fnOf "_law_spread_of" "_law_spread_of" (defArgs s__law_spread_of) (defBody s__law_spread_of) (defScope s__law_spread_of) .none kV36 dc36 pm36 an36 cd36 ct36), sl36⟩) (c36 : PySem.W.codeIn K cd36 "_law_spread_of" = true) (k36 : PySem.W.keepIn K (.ref f36) = true)
    (a37 : PySem.W.nsIn K mainGlobals "_law_test_spread" = some (some (.ref f37))) (l37 : K.lookup f37 = some ⟨oc37, od37, .func (PySem.W.fnOf "_law_test_spread" "_law_test_spread" (defArgs s__law_test_spread) (defBody s__law_test_spread) (defScope s__law_test_spread) .none kV37 dc37 pm37 an37 cd37 ct37), sl37⟩) (c37 : PySem.W.codeIn K cd37 "_law_test_spread" = true) (k37 : PySem.W.keepIn K (.ref f37) = true)
    (a38 : PySem.W.nsIn K mainGlobals "_law_least_right" = some (some (.ref f38))) (l38 : K.lookup f38 = some ⟨oc38, od38, .func (PySem.W.fnOf "_law_least_right" "_law_least_right" (defArgs s__law_least_right) (defBody s__law_least_right) (defScope s__law_least_right) .none kV38 dc38 pm38 an38 cd38 ct38), sl38⟩) (c38 : PySem.W.codeIn K cd38 "_law_least_right" = true) (k38 : PySem.W.keepIn K (.ref f38) = true)
    (a39 : PySem.W.nsIn K mainGlobals "_law_good" = some (some (.ref f39))) (l39 : K.lookup f39 = some ⟨oc39, od39, .func (PySem.W.fnOf "_law_good" "_law_good" (defArgs s__law_good) (defBody s__law_good) (defScope s__law_good) .none kV39 dc39 pm39 an39 cd39 ct39), sl39⟩) (c39 : PySem.W.codeIn K cd39 "_law_good" = true) (k39 : PySem.W.keepIn K (.ref f39) = true)
    (a40 : PySem.W.nsIn K mainGlobals "law" = some (some (.ref f40))) (l40 : K.lookup f40 = some ⟨oc40, od40, .func (PySem.W.fnOf "law" "law" (defArgs s_law) (defBody s_law) (defScope s_law) .none kV40 dc40 pm40 an40 cd40 ct40), sl40⟩) (c40 : PySem.W.codeIn K cd40 "law" = true) (k40 : PySem.W.keepIn K (.ref f40) = true)
    (z_abs : PySem.W.nsIn K mainGlobals "abs" = some none)
    (z_all : PySem.W.nsIn K mainGlobals "all" = some none)
    (z_bool : PySem.W.nsIn K mainGlobals "bool" = some none)
    (z_int : PySem.W.nsIn K mainGlobals "int" = some none)
    (z_isinstance : PySem.W.nsIn K mainGlobals "isinstance" = some none)
    (z_len : PySem.W.nsIn K mainGlobals "len" = some none)
    (z_list : PySem.W.nsIn K mainGlobals "list" = some none)
    (z_max : PySem.W.nsIn K mainGlobals "max" = some none)
    (z_min : PySem.W.nsIn K mainGlobals "min" = some none)
    (z_range : PySem.W.nsIn K mainGlobals "range" = some none)
    (z_repr : PySem.W.nsIn K mainGlobals "repr" = some none)
    (z_str : PySem.W.nsIn K mainGlobals "str" = some none)
    (z_sum : PySem.W.nsIn K mainGlobals "sum" = some none)
    (z_tuple : PySem.W.nsIn K mainGlobals "tuple" = some none)
    (z_zip : PySem.W.nsIn K mainGlobals "zip" = some none)
    (m_LEAF : PySem.W.nsIn K mainGlobals "LEAF" = some (some (.str "leaf" t_LEAF)))
    (m_MOST_FLOORS : PySem.W.nsIn K mainGlobals "MOST_FLOORS" = some (some (.int 8 t_MOST_FLOORS)))
    (m_NOUGHT : PySem.W.nsIn K mainGlobals "NOUGHT" = some (some (.ref A_NOUGHT))) (tl_NOUGHT : K.lookup A_NOUGHT = some ⟨.type "tuple", od_NOUGHT, .seq its_NOUGHT n_NOUGHT, sl_NOUGHT⟩) (kz_NOUGHT : its_NOUGHT.size ≤ sizeLine) (kd_NOUGHT : KDs K [.int 0, .int 1] its_NOUGHT.toList)
    (m_TEST : PySem.W.nsIn K mainGlobals "TEST" = some (some (.str "test" t_TEST)))
    (m_WORKS : PySem.W.nsIn K mainGlobals "WORKS" = some (some (.ref T_WORKS))) (tl_WORKS : K.lookup T_WORKS = some ⟨.type "dict", none, .dict es_WORKS n_WORKS, #[]⟩)
    (lit_WORKS : PySem.W.KeysLit w.params es_WORKS.toList)
    (te_WORKS_plus : PySem.W.nsIn K T_WORKS "plus" = some (some (.ref f7)))
    (te_WORKS_minus : PySem.W.nsIn K T_WORKS "minus" = some (some (.ref f8)))
    (te_WORKS_times : PySem.W.nsIn K T_WORKS "times" = some (some (.ref f9)))
    (te_WORKS_over : PySem.W.nsIn K T_WORKS "over" = some (some (.ref f10))) :
    ∃ (fs : Nat → Option Addr) (fd : FuncData), (∀ (s : Shared) (u : Value), BindsTo s fd ⟨[u], []⟩ [("_law_script", u)]) ∧ ∀ base : Heap, K.In base → base.Ns mainGlobals mg → FnG l.prog w ⟨K, mg, fs⟩ base 20 fa fd ["_law_script"] (tab 20 40) := by
  have e := hfa.symm.trans (PySem.W.mg_of X G a40)
  cases e
  let I : Img K mg w := ⟨_, _, funD_mk (st := s_is_whole) l1 c1 k1, PySem.W.mg_of X G a1, _, _, funD_mk (st := s_is_within) l2 c2 k2, PySem.W.mg_of X G a2, _, _, funD_mk (st := s_common_part) l3 c3 k3, PySem.W.mg_of X G a3, _, _, funD_mk (st := s_lowest) l4 c4 k4, PySem.W.mg_of X G a4, _, _, funD_mk (st := s_is_ratio) l5 c5 k5, PySem.W.mg_of X G a5, _, _, funD_mk (st := s_held) l6 c6 k6, PySem.W.mg_of X G a6, _, _, funD_mk (st := s_ratio_plus) l7 c7 k7, PySem.W.mg_of X G a7, _, _, funD_mk (st := s_ratio_minus) l8 c8 k8, PySem.W.mg_of X G a8, _, _, funD_mk (st := s_ratio_times) l9 c9 k9, PySem.W.mg_of X G a9, _, _, funD_mk (st := s_ratio_over) l10 c10 k10, PySem.W.mg_of X G a10, _, _, funD_mk (st := s_worked) l11 c11 k11, PySem.W.mg_of X G a11, _, _, funD_mk (st := s_spread_of) l12 c12 k12, PySem.W.mg_of X G a12, _, _, funD_mk (st := s_labels_of) l13 c13 k13, PySem.W.mg_of X G a13, _, _, funD_mk (st := s_leaf_of) l14 c14 k14, PySem.W.mg_of X G a14, _, _, funD_mk (st := s_is_yes) l15 c15 k15, PySem.W.mg_of X G a15, _, _, funD_mk (st := s_rows_parted) l16 c16 k16, PySem.W.mg_of X G a16, _, _, funD_mk (st := s_rising_numbers) l17 c17 k17, PySem.W.mg_of X G a17, _, _, funD_mk (st := s_tests_of) l18 c18 k18, PySem.W.mg_of X G a18, _, _, funD_mk (st := s_best_test) l19 c19 k19, PySem.W.mg_of X G a19, _, _, (funD_mkK (st := s_tree_of) l20 c20 k20 (fun qq hh => by
      simp only [List.mem_cons, List.not_mem_nil, or_false] at hh
      rcases hh with rfl
      · exact ⟨_, kd20_deep, ⟨_, rfl⟩⟩)), PySem.W.mg_of X G a20, _, _, funD_mk (st := s_is_tree_on) l21 c21 k21, PySem.W.mg_of X G a21, _, _, funD_mk (st := s_is_tree) l22 c22 k22, PySem.W.mg_of X G a22, _, _, funD_mk (st := s_spread_in) l23 c23 k23, PySem.W.mg_of X G a23, _, _, funD_mk (st := s_is_good) l24 c24 k24, PySem.W.mg_of X G a24, _, _, funD_mk (st := s__law_bag) l25 c25 k25, PySem.W.mg_of X G a25, _, _, funD_mk (st := s__law_take) l26 c26 k26, PySem.W.mg_of X G a26, _, _, funD_mk (st := s__law_ratio) l27 c27 k27, PySem.W.mg_of X G a27, _, _, funD_mk (st := s__law_less) l28 c28 k28, PySem.W.mg_of X G a28, _, _, funD_mk (st := s__law_number) l29 c29 k29, PySem.W.mg_of X G a29, _, _, funD_mk (st := s__law_rows) l30 c30 k30, PySem.W.mg_of X G a30, _, _, funD_mk (st := s__law_spread) l31 c31 k31, PySem.W.mg_of X G a31, _, _, funD_mk (st := s__law_both) l32 c32 k32, PySem.W.mg_of X G a32, _, _, funD_mk (st := s__law_cuts) l33 c33 k33, PySem.W.mg_of X G a33, _, _, funD_mk (st := s__law_sides) l34 c34 k34, PySem.W.mg_of X G a34, _, _, funD_mk (st := s__law_labels) l35 c35 k35, PySem.W.mg_of X G a35, _, _, funD_mk (st := s__law_spread_of) l36 c36 k36, PySem.W.mg_of X G a36, _, _, funD_mk (st := s__law_test_spread) l37 c37 k37, PySem.W.mg_of X G a37, _, _, funD_mk (st := s__law_least_right) l38 c38 k38, PySem.W.mg_of X G a38, _, _, funD_mk (st := s__law_good) l39 c39 k39, PySem.W.mg_of X G a39, _, _, funD_mk (st := s_law) l40 c40 k40, PySem.W.mg_of X G a40, PySem.W.mg_none_of X G z_abs, PySem.W.mg_none_of X G z_all, PySem.W.mg_none_of X G z_bool, PySem.W.mg_none_of X G z_int, PySem.W.mg_none_of X G z_isinstance, PySem.W.mg_none_of X G z_len, PySem.W.mg_none_of X G z_list, PySem.W.mg_none_of X G z_max, PySem.W.mg_none_of X G z_min, PySem.W.mg_none_of X G z_range, PySem.W.mg_none_of X G z_repr, PySem.W.mg_none_of X G z_str, PySem.W.mg_none_of X G z_sum, PySem.W.mg_none_of X G z_tuple, PySem.W.mg_none_of X G z_zip, fun _ _ _ _ => kc_str (PySem.W.mg_of X G m_LEAF), fun _ _ _ _ => kc_int (PySem.W.mg_of X G m_MOST_FLOORS), fun _ _ _ _ => kc_tup (PySem.W.mg_of X G m_NOUGHT) tl_NOUGHT kz_NOUGHT kd_NOUGHT, fun _ _ _ _ => kc_str (PySem.W.mg_of X G m_TEST), T_WORKS, PySem.W.mg_of X G m_WORKS, ⟨_, _, _, tl_WORKS, lit_WORKS, te_WORKS_plus, rfl⟩, ⟨_, _, _, tl_WORKS, lit_WORKS, te_WORKS_minus, rfl⟩, ⟨_, _, _, tl_WORKS, lit_WORKS, te_WORKS_times, rfl⟩, ⟨_, _, _, tl_WORKS, lit_WORKS, te_WORKS_over, rfl⟩⟩
  refine ⟨faOf I, I.fd40, fun s v => .of_eq rfl, fun base _ _ => (all_ok I 20).h40⟩
end LW
/-! GL part 15: tools for reckoning with meanings. -/
namespace GL
open PySem L2
section
variable {env : Env'} {g : Gh} {a b c : ME} {t u : MT} {l l' : ML} {s s' : MS} {i j : Nat} {d : D}
@[simp] theorem eLv_ap : eLv i env g = match env[i]? with | some (.val d) => .ok d g | _ => .bad := rfl
@[simp] theorem eC_ap : eC d env g = .ok d g := rfl
@[simp] theorem eBin_ap {op : Operator} : eBin op a b env g = (a env g).bind fun x g1 => (b env g1).bind fun y g2 => binop op x y g2 := rfl
@[simp] theorem eCmp_ap {op : CmpOp} : eCmp op a b env g = (a env g).bind fun x g1 => (b env g1).bind fun y g2 => cmpop op x y g2 := rfl
@[simp] theorem eChain_ap {op op' : CmpOp} : eChain op op' a b c env g = (a env g).bind fun x g1 => (b env g1).bind fun y g2 => (cmpop op x y g2).bind (asB fun k g3 => if k then (c env g3).bind fun z g4 => cmpop op' y z g4 else .ok (.bl false) g3) := rfl
@[simp] theorem eNeg_ap : eNeg a env g = (a env g).bind negop := rfl
@[simp] theorem tV_ap : tV a env g = (a env g).bind (asB fun b g1 => .ok b g1) := rfl
@[simp] theorem tAnd_ap : tAnd t u env g = (t env g).bind fun k g1 => if k then u env g1 else .ok false g1 := rfl
@[simp] theorem tOr_ap : tOr t u env g = (t env g).bind fun k g1 => if k then .ok true g1 else u env g1 := rfl
@[simp] theorem tNot_ap : tNot t env g = (t env g).bind fun k g1 => .ok (!k) g1 := rfl
@[simp] theorem tTrue_ap : tTrue env g = .ok true g := rfl
@[simp] theorem eAnd_ap : eAnd a b env g = (a env g).bind (asB fun k g1 => if k then b env g1 else .ok (.bl false) g1) := rfl
@[simp] theorem eOr_ap : eOr a b env g = (a env g).bind (asB fun k g1 => if k then .ok (.bl true) g1 else b env g1) := rfl
@[simp] theorem eNot_ap : eNot t env g = (t env g).bind fun k g1 => .ok (.bl (!k)) g1 := rfl
@[simp] theorem eIf_ap : eIf t a b env g = (t env g).bind fun k g1 => if k then a env g1 else b env g1 := rfl
@[simp] theorem lNil_ap : lNil env g = .ok [] g := rfl
@[simp] theorem lCons_ap : lCons a l env g = (a env g).bind fun x g1 => (l env g1).bind fun xs g2 => .ok (x :: xs) g2 := rfl
@[simp] theorem eTup_ap : eTup l env g = (l env g).bind fun xs g1 => guardR (decide (xs.length ≤ LIM)) (.tup xs) g1 := rfl
@[simp] theorem fLst_ap : fLst l env g = (l env g).bind fun xs g1 => if xs.length ≤ LIM then .ok xs g1 else .bad := rfl
@[simp] theorem eNew_ap : eNew l env g = (l env g).bind fun xs g1 => .ok (.lst xs) g1 := rfl
@[simp] theorem eAlloc_ap : eAlloc l env g = (l env g).bind fun xs g1 => .ok (.loc g1.length) (g1 ++ [.lst xs]) := rfl
@[simp] theorem eSub_ap : eSub a b env g = (a env g).bind fun x g1 => (b env g1).bind fun y g2 => subD (deref g2 x) y g2 := rfl
@[simp] theorem oNone_ap : oNone env g = .ok none g := rfl
@[simp] theorem oSome_ap : oSome a env g = (a env g).bind fun x g1 => match x with | .int i => .ok (some i) g1 | _ => .bad := rfl
@[simp] theorem eCut_ap {lo hi : MO} : eCut a lo hi env g = (a env g).bind fun x g1 => (lo env g1).bind fun l g2 => (hi env g2).bind fun h g3 => cutop (deref g3 x) l h g3 := rfl
@[simp] theorem lCut_ap {lo hi : MO} : lCut a lo hi env g = (a env g).bind fun x g1 => (lo env g1).bind fun l g2 => (hi env g2).bind fun h g3 => match deref g3 x with
  | .lst xs => if xs.length ≤ LIM then .ok (cutD xs l h) g3 else .bad
  | _ => .bad := rfl
@[simp] theorem lCat_ap : lCat a b env g = (a env g).bind fun x g1 => (b env g1).bind fun y g2 => match deref g2 x, deref g2 y with
  | .lst xs, .lst ys => if xs.length + ys.length ≤ LIM then .ok (xs ++ ys) g2 else .bad
  | _, _ => .bad := rfl
@[simp] theorem eBi_ap {o : List D → Gh → R D} : eBi o l env g = (l env g).bind o := rfl
@[simp] theorem lBi_ap {o : List D → Gh → R (List D)} : lBi o l env g = (l env g).bind o := rfl
@[simp] theorem eTab_ap {tb : Str → Option D} : eTab tb a env g = (a env g).bind fun x g1 => match x with
  | .str z => match tb z with
    | some d => .ok d g1
    | none => .bad
  | _ => .bad := rfl
@[simp] theorem eCall_ap {m : FM} {n nk : Nat} {pm : List Nat} {dd : List D} : eCall m n nk pm dd l l' env g = (l env g).bind fun ds g1 => (l' env g1).bind fun es g2 => if ds.length = n ∧ es.length = nk then noX (m (permL pm (ds ++ es ++ dd)) g2) else .bad := rfl
@[simp] theorem eCallV_ap {F : Nat → FM} {okF : Nat → Bool} {n : Nat} : eCallV F okF n i l env g = match env[i]? with
  | some (.val (.fn q)) => if okF q then (l env g).bind fun ds g1 => if ds.length = n then noX (F q ds g1) else .bad else .bad
  | _ => .bad := rfl
@[simp] theorem sSkip_ap : sSkip env g = .nx env g := rfl
@[simp] theorem sSeq_ap : sSeq s s' env g = (s env g).seq s' := rfl
@[simp] theorem sIf_ap : sIf t s s' env g = (t env g).bindS fun k g1 => if k then s env g1 else s' env g1 := rfl
@[simp] theorem sRet_ap : sRet a env g = (a env g).bindS fun d g1 => .rt d g1 := rfl
@[simp] theorem sRetN_ap : sRetN env g = .rt .non g := rfl
@[simp] theorem sBreak_ap : sBreak env g = .bk env g := rfl
@[simp] theorem sCont_ap : sCont env g = .ct env g := rfl
@[simp] theorem sDrop_ap : sDrop a env g = (a env g).bindS fun _ g1 => .nx env g1 := rfl
@[simp] theorem sSet_ap : sSet i a env g = (a env g).bindS fun d g1 => .nx (env.set i (.val d)) g1 := rfl
@[simp] theorem sSetOwn_ap : sSetOwn i l env g = (l env g).bindS fun xs g1 => if i < env.length then .nx (env.set i (.own xs)) g1 else .bad := rfl
@[simp] theorem sFreeze_ap : sFreeze i s env g = match env[i]? with | some (.own xs) => s (env.set i (.val (.lst xs))) g | _ => .bad := rfl
@[simp] theorem sAsg_ap {tg : MG} : sAsg a tg env g = (a env g).bindS fun d g1 => optS (tg d env) g1 := rfl
@[simp] theorem optS_some {e : Env'} : optS (some e) g = .nx e g := rfl
@[simp] theorem optS_none : optS none g = .bad := rfl
@[simp] theorem sPar_ap : sPar i j l env g = (l env g).bindS fun ds g1 => match ds with | [x, y] => .nx ((env.set i (.val x)).set j (.val y)) g1 | _ => .bad := rfl
@[simp] theorem sOwnApp_ap : sOwnApp i a env g = match env[i]? with
  | some (.own xs) => (a env g).bindS fun d g1 => if xs.length < LIM then .nx (env.set i (.own (xs ++ [d]))) g1 else .bad
  | _ => .bad := rfl
@[simp] theorem sSetIx_ap : sSetIx a b c env g = (a env g).bindS fun d g1 => (b env g1).bindS fun x g2 => (c env g2).bindS fun y g3 => match x, y with
  | .loc n, .int z => match g3[n]? with
    | some (.lst xs) => match ixN xs.length z with
      | some j => .nx env (g3.set n (.lst (xs.set j d)))
      | none => .bad
    | _ => .bad
  | _, _ => .bad := rfl
@[simp] theorem gNm_ap : gNm i d env = some (env.set i (.val d)) := rfl
@[simp] theorem gsNil_ap : gsNil [] env = some env := rfl
@[simp] theorem gsCons_ap {x : MG} {y : MGs} {ds : List D} : gsCons x y (d :: ds) env = (x d env).bind fun e => y ds e := rfl
@[simp] theorem gTp_ap {n : Nat} {y : MGs} {ds : List D} : gTp n y (.tup ds) env = if ds.length = n then y ds env else none := rfl
@[simp] theorem iV_ap : iV a env g = (a env g).bind itemsD := rfl
@[simp] theorem iRange1_ap : iRange1 a env g = (a env g).bind fun x g1 => match x with
  | .int j => if rngOk j then .ok (rangeD 0 j.toNat, none) g1 else .bad
  | _ => .bad := rfl
@[simp] theorem itemsD_lst {xs : List D} : itemsD (.lst xs) g = .ok (xs, none) g := rfl
@[simp] theorem itemsD_tup {xs : List D} : itemsD (.tup xs) g = .ok (xs, none) g := rfl
@[simp] theorem sFor_ap {it : MI} {tg : MG} : sFor it tg s env g = (it env g).bindS fun p g1 => forL p.2 tg s p.1 env g1 := rfl
@[simp] theorem lComp_ap {it : MI} {tg : MG} {vs : List Nat} : lComp it tg t a vs env g = (it env g).bind fun p g1 => match compL p.2 tg t a p.1 (blkE env vs) g1 with
  | .ok ys g2 => if ys.length ≤ LIM then .ok ys g2 else .bad
  | _ => .bad := rfl
end
/-! ### operations -/
section
variable {g : Gh} {i j : Int} {x y : Str} {xs ys : List D} {d e : D}
@[simp] theorem deref_int : deref g (.int i) = .int i := rfl
@[simp] theorem deref_str : deref g (.str x) = .str x := rfl
@[simp] theorem deref_non : deref g .non = .non := rfl
@[simp] theorem deref_bl {k : Bool} : deref g (.bl k) = .bl k := rfl
@[simp] theorem deref_tup : deref g (.tup xs) = .tup xs := rfl
@[simp] theorem deref_lst : deref g (.lst xs) = .lst xs := rfl
@[simp] theorem deref_arr {ns : List Int} : deref g (.arr ns) = .arr ns := rfl
@[simp] theorem deref_fn {n : Nat} : deref g (.fn n) = .fn n := rfl
theorem deref_loc {n : Nat} (h : g[n]? = some (.lst xs)) : deref g (.loc n) = .lst xs := by simp [deref, h]
@[simp] theorem guardR_true : guardR true d g = .ok d g := rfl
@[simp] theorem add_ap : binop .Add (.int i) (.int j) g = .ok (.int (i + j)) g := rfl
@[simp] theorem sub_ap : binop .Sub (.int i) (.int j) g = .ok (.int (i - j)) g := rfl
@[simp] theorem mul_ap : binop .Mult (.int i) (.int j) g = guardR (mulOk i j) (.int (i * j)) g := rfl
@[simp] theorem fdiv_ap : binop .FloorDiv (.int i) (.int j) g = guardR (divOk j) (.int (i.fdiv j)) g := rfl
@[simp] theorem fmod_ap : binop .Mod (.int i) (.int j) g = guardR (decide (j ≠ 0)) (.int (i.fmod j)) g := rfl
@[simp] theorem pow_ap : binop .Pow (.int i) (.int j) g = guardR (powOk i j) (.int (i ^ j.toNat)) g := rfl
@[simp] theorem cat_ap : binop .Add (.lst xs) (.lst ys) g = guardR (decide (xs.length + ys.length ≤ LIM)) (.lst (xs ++ ys)) g := rfl
@[simp] theorem catT_ap : binop .Add (.tup xs) (.tup ys) g = guardR (decide (xs.length + ys.length ≤ LIM)) (.tup (xs ++ ys)) g := rfl
@[simp] theorem catS_ap : binop .Add (.str x) (.str y) g = guardR (decide (x.length + y.length ≤ LIM)) (.str (x ++ y)) g := rfl
@[simp] theorem neg_ap : negop (.int i) g = .ok (.int (-i)) g := rfl
@[simp] theorem lt_ap : cmpop .Lt (.int i) (.int j) g = .ok (.bl (decide (i < j))) g := rfl
@[simp] theorem gt_ap : cmpop .Gt (.int i) (.int j) g = .ok (.bl (decide (j < i))) g := rfl
@[simp] theorem le_ap : cmpop .LtE (.int i) (.int j) g = .ok (.bl (decide (i ≤ j))) g := by
  show R.ok (D.bl (!decide (j < i))) g = _
  rw [dec_not]
@[simp] theorem ge_ap : cmpop .GtE (.int i) (.int j) g = .ok (.bl (decide (j ≤ i))) g := by
  show R.ok (D.bl (!decide (i < j))) g = _
  rw [dec_not]
@[simp] theorem eqI_ap : cmpop .Eq (.int i) (.int j) g = .ok (.bl (decide (i = j))) g := by
  show guardR (okE (.int i) (.int j)) (.bl (eqD (.int i) (.int j))) g = _
  simp [okE, okD, eqD, guardR, Bool.beq_eq_decide_eq]
@[simp] theorem neI_ap : cmpop .NotEq (.int i) (.int j) g = .ok (.bl (decide (i ≠ j))) g := by
  show guardR (okE (.int i) (.int j)) (.bl (!eqD (.int i) (.int j))) g = _
  simp [okE, okD, eqD, guardR, Bool.beq_eq_decide_eq]
theorem eq_ap : cmpop .Eq d e g = guardR (okE (deref g d) (deref g e)) (.bl (eqD (deref g d) (deref g e))) g := rfl
theorem ne_ap : cmpop .NotEq d e g = guardR (okE (deref g d) (deref g e)) (.bl (!eqD (deref g d) (deref g e))) g := rfl
@[simp] theorem isN_ap : cmpop .Is d .non g = .ok (.bl (isNon (deref g d))) g := rfl
@[simp] theorem notN_ap : cmpop .IsNot d .non g = .ok (.bl (!isNon (deref g d))) g := rfl
@[simp] theorem isNon_non : isNon .non = true := rfl
@[simp] theorem isNon_tup : isNon (.tup xs) = false := rfl
@[simp] theorem isNon_int : isNon (.int i) = false := rfl
@[simp] theorem asB_bl {α : Type} {f : Bool → Gh → R α} {k : Bool} : asB f (.bl k) g = f k g := rfl
@[simp] theorem subT_ap : subD (.tup xs) (.int i) g = match atI xs i with | some d => .ok d g | none => .bad := rfl
@[simp] theorem subL_ap : subD (.lst xs) (.int i) g = match atI xs i with | some d => .ok d g | none => .bad := rfl
@[simp] theorem subA_ap {ns : List Int} : subD (.arr ns) (.int i) g = match atI ns i with | some n => .ok (.int n) g | none => .bad := rfl
@[simp] theorem oAbs_ap : oAbs [.int i] g = .ok (.int (if i < 0 then -i else i)) g := rfl
@[simp] theorem oInt_bl {k : Bool} : oInt [.bl k] g = .ok (.int (if k then 1 else 0)) g := rfl
@[simp] theorem oInt_int : oInt [.int i] g = .ok (.int i) g := rfl
@[simp] theorem oLen_lst : oLen [.lst xs] g = .ok (.int xs.length) g := rfl
@[simp] theorem oLen_tup : oLen [.tup xs] g = .ok (.int xs.length) g := rfl
@[simp] theorem oLen_arr {ns : List Int} : oLen [.arr ns] g = .ok (.int ns.length) g := rfl
@[simp] theorem oMin_ap : oMin [.int i, .int j] g = .ok (.int (if j < i then j else i)) g := rfl
@[simp] theorem oMax_ap : oMax [.int i, .int j] g = .ok (.int (if j > i then j else i)) g := rfl
@[simp] theorem cutL_ap {lo hi : Option Int} : cutop (.lst xs) lo hi g = .ok (.lst (cutD xs lo hi)) g := rfl
@[simp] theorem cutT_ap {lo hi : Option Int} : cutop (.tup xs) lo hi g = .ok (.tup (cutD xs lo hi)) g := rfl
theorem atI0 {α : Type} {x : α} {l : List α} : atI (x :: l) 0 = some x := by simp [atI, ixN]
theorem ixN_nat {n j : Nat} (h : j < n) : ixN n (j : Int) = some j := by unfold ixN; rw [if_pos (by omega), if_pos (by omega)]; simp
end
/-! ### sizes -/
/-- an int of less than n bits -/
abbrev Bd (n : Nat) (x : Int) : Prop := x.natAbs < 2 ^ n
theorem Bd.mono {n m : Nat} {x : Int} (h : Bd n x) (l : n ≤ m) : Bd m x := Nat.lt_of_lt_of_le h (Nat.pow_le_pow_right (by decide) l)
theorem log2_of {n : Nat} {x : Nat} (h0 : 0 < n) (h : x < 2 ^ n) : x.log2 < n := by
  by_cases hx : x = 0
  · subst hx; simpa using h0
  · exact (Nat.log2_lt hx).mpr h
theorem mulOk_bd {i j : Int} {a b : Nat} (ha : Bd a i) (hb : Bd b j) (h0 : 0 < a) (h1 : 0 < b) (h : a + b ≤ 1000000) : mulOk i j = true := by
  have := log2_of h0 ha
  have := log2_of h1 hb
  exact tru_iff.mpr (.inr (by omega))
theorem mulOk_left {i j : Int} (h : Bd 64 i) : mulOk i j = true := by
  have h : i.natAbs < 2 ^ 64 := h
  exact tru_iff.mpr (.inl (.inl (by omega)))
theorem mulOk_right {i j : Int} (h : Bd 64 j) : mulOk i j = true := by
  have h : j.natAbs < 2 ^ 64 := h
  exact tru_iff.mpr (.inl (.inr (by omega)))
theorem divOk_bd {j : Int} {b : Nat} (h : j ≠ 0) (hb : Bd b j) (h0 : 0 < b) (h9 : b ≤ 9000) : divOk j = true := by
  have := log2_of h0 hb
  exact tru_iff.mpr ⟨h, by omega⟩
theorem powOk_bd {i j : Int} (h0 : 0 ≤ j) (h1 : j ≤ 1000000) (h : Bd 64 i) : powOk i j = true := tru_iff.mpr ⟨⟨h0, h1⟩, h⟩
theorem Bd.mul {i j : Int} {a b : Nat} (ha : Bd a i) (hb : Bd b j) : Bd (a + b) (i * j) := by
  show (i * j).natAbs < 2 ^ (a + b)
  rw [Int.natAbs_mul, Nat.pow_add]
  exact Nat.mul_lt_mul'' ha hb
theorem Bd.add {i j : Int} {a : Nat} (ha : Bd a i) (hb : Bd a j) : Bd (a + 1) (i + j) := by
  show (i + j).natAbs < 2 ^ (a + 1)
  have h1 : i.natAbs < 2 ^ a := ha
  have h2 : j.natAbs < 2 ^ a := hb
  have := Int.natAbs_add_le i j
  rw [Nat.pow_succ]; omega
theorem Bd.neg {i : Int} {a : Nat} (ha : Bd a i) : Bd a (-i) := by
  show (-i).natAbs < 2 ^ a
  rw [Int.natAbs_neg]; exact ha
theorem Bd.le {i j : Int} {a : Nat} (hb : Bd a j) (h : i.natAbs ≤ j.natAbs) : Bd a i := Nat.lt_of_le_of_lt h hb

theorem rng_in {i : Int} (h : -1000000 ≤ i) (h1 : i ≤ 1000000) : rngOk i = true := tru_iff.mpr ⟨Int.le_trans (by decide) h, Int.lt_of_le_of_lt h1 (by decide)⟩
theorem rng_nat {n : Nat} (h : n ≤ 1000000) : rngOk (n : Int) = true := rng_in (by omega) (by omega)
/-! ### loops -/
theorem forL_nil {tg : MG} {b : MS} {env : Env'} {g : Gh} : forL none tg b [] env g = .nx env g := by
  unfold forL; exact if_pos trivial
theorem forL_cons {tg : MG} {b : MS} {d : D} {ds : List D} {env : Env'} {g : Gh} : forL none tg b (d :: ds) env g = match tg d env with
      | none => .bad
      | some env1 => match b env1 g with
        | .nx env2 g2 => forL none tg b ds env2 g2
        | .ct env2 g2 => forL none tg b ds env2 g2
        | .bk env2 g2 => .nx env2 g2
        | r => r := by
  conv => lhs; unfold forL
  exact if_pos trivial
/-- a loop by what holds between two turns -/
theorem forL_inv {tg : MG} {b : MS} (I : Env' → Gh → Prop) : ∀ (ds : List D), (∀ d ∈ ds, ∀ env g, I env g → ∃ env1, tg d env = some env1 ∧ ∃ env2 g2, b env1 g = .nx env2 g2 ∧ I env2 g2) →
    ∀ env g, I env g → ∃ env' g', forL none tg b ds env g = .nx env' g' ∧ I env' g'
  | [], _, env, g, h => ⟨env, g, forL_nil, h⟩
  | d :: ds, hb, env, g, h => by
    obtain ⟨env1, e1, env2, g2, e2, h2⟩ := hb d List.mem_cons_self env g h
    obtain ⟨env', g', e3, h3⟩ := forL_inv I ds (fun d hd => hb d (List.mem_cons_of_mem _ hd)) env2 g2 h2
    refine ⟨env', g', ?_, h3⟩
    rw [forL_cons, e1]
    simp only [e2]
    exact e3
theorem compL_nil {tg : MG} {t : MT} {e : ME} {env : Env'} {g : Gh} : compL none tg t e [] env g = .ok [] g := by
  unfold compL; exact if_pos trivial
theorem compL_cons {tg : MG} {t : MT} {e : ME} {d : D} {ds : List D} {env : Env'} {g : Gh} : compL none tg t e (d :: ds) env g = match tg d env with
      | none => .bad
      | some env1 => match t env1 g with
        | .ok k g1 => if k then (match e env1 g1 with
            | .ok y g2 => (match compL none tg t e ds env g2 with
              | .ok ys g3 => .ok (y :: ys) g3
              | _ => .bad)
            | _ => .bad) else compL none tg t e ds env g1
        | _ => .bad := by
  conv => lhs; unfold compL
  exact if_pos trivial
/-- a comprehension whose items are reckoned by themselves -/
theorem compL_map {tg : MG} {t : MT} {e : ME} {env : Env'} {g : Gh} (p : D → Bool) (f : D → D) : ∀ (ds : List D), (∀ d ∈ ds, ∃ env1, tg d env = some env1 ∧ t env1 g = .ok (p d) g ∧ (p d = true → e env1 g = .ok (f d) g)) →
    compL none tg t e ds env g = .ok ((ds.filter p).map f) g
  | [], _ => compL_nil
  | d :: ds, h => by
    obtain ⟨env1, e1, e2, e3⟩ := h d List.mem_cons_self
    have ih := compL_map p f ds fun d hd => h d (List.mem_cons_of_mem _ hd)
    rw [compL_cons, e1]
    simp only [e2]
    cases hp : p d with
    | false => simp only [Bool.false_eq_true, if_false, List.filter_cons, hp]; exact ih
    | true => simp only [if_true, e3 hp, ih, List.filter_cons, hp, List.map_cons]
/-- .. whose items change the heap, each as told -/
theorem compL_inv {tg : MG} {e : ME} {env : Env'} (I : Gh → Prop) (Pd : D → Prop) : ∀ (ds : List D), (∀ d ∈ ds, ∀ g, I g → ∃ env1, tg d env = some env1 ∧ ∃ y g', e env1 g = .ok y g' ∧ Pd y ∧ I g') →
    ∀ g, I g → ∃ ys g', compL none tg tTrue e ds env g = .ok ys g' ∧ ys.length = ds.length ∧ (∀ y ∈ ys, Pd y) ∧ I g'
  | [], _, g, h => ⟨[], g, compL_nil, rfl, (fun _ q => nomatch q), h⟩
  | d :: ds, hb, g, h => by
    obtain ⟨env1, e1, y, g', e2, h2, h3⟩ := hb d List.mem_cons_self g h
    obtain ⟨ys, g2, e3, l, h4, h5⟩ := compL_inv I Pd ds (fun d hd => hb d (List.mem_cons_of_mem _ hd)) g' h3
    refine ⟨y :: ys, g2, ?_, by simp [l], ?_, h5⟩
    · rw [compL_cons, e1]
      simp only [tTrue_ap, if_true, e2, e3]
    · intro z hz
      rcases List.mem_cons.mp hz with rfl | hz
      · exact h2
      · exact h4 z hz
theorem rangeD_mem {lo : Int} {n : Nat} {d : D} (h : d ∈ rangeD lo n) : ∃ i : Nat, i < n ∧ d = .int (lo + i) := by
  obtain ⟨i, hi, rfl⟩ := List.mem_map.mp h
  exact ⟨i, List.mem_range.mp hi, rfl⟩
end GL
/-! GL part 16: numbers: the greatest common part, lowest terms; the bag of draws. -/
namespace GL
open PySem L2
/-! ### the greatest common part -/
noncomputable def B_common_part : MS := sSeq (sPar 0 1 (lCons (eBi oAbs (lCons (eLv 0) (lNil))) (lCons (eBi oAbs (lCons (eLv 1) (lNil))) (lNil)))) (sSeq (sWhile (tV (eCmp .NotEq (eLv 1) (eC (.int 0)))) (sPar 0 1 (lCons (eLv 1) (lCons (eBin .Sub (eLv 0) (eBin .Mult (eBin .FloorDiv (eLv 0) (eLv 1)) (eLv 1))) (lNil))))) (sRet (eLv 0)))
theorem fdiv_nat (m n : Nat) : ((m : Int).fdiv (n : Int)) = ((m / n : Nat) : Int) := by
  rw [Int.fdiv_eq_ediv_of_nonneg _ (by omega)]; rfl
theorem fmod_nat (m n : Nat) : ((m : Int).fmod (n : Int)) = ((m % n : Nat) : Int) := by
  rw [Int.fmod_eq_emod_of_nonneg _ (by omega)]; rfl
theorem rest_nat (m n : Nat) : (m : Int) - ((m / n : Nat) : Int) * (n : Int) = ((m % n : Nat) : Int) := by
  have h1 : ((m / n : Nat) : Int) * (n : Int) = ((m / n * n : Nat) : Int) := by rw [Int.natCast_mul]
  have h2 := Nat.div_add_mod' m n
  rw [h1]; omega
theorem bd_nat {n k : Nat} (h : n < 2 ^ k) : Bd k (n : Int) := by show (n : Int).natAbs < 2 ^ k; simpa using h
theorem bd_div {m n k : Nat} (h : m < 2 ^ k) : Bd k ((m / n : Nat) : Int) := bd_nat (Nat.lt_of_le_of_lt (Nat.div_le_self m n) h)
theorem cp_loop {K : Nat} (k0 : 0 < K) (k8 : K ≤ 8000) : ∀ (n m : Nat) (g : Gh), m < 2 ^ K → n < 2 ^ K →
    sWhile (tV (eCmp .NotEq (eLv 1) (eC (.int 0)))) (sPar 0 1 (lCons (eLv 1) (lCons (eBin .Sub (eLv 0) (eBin .Mult (eBin .FloorDiv (eLv 0) (eLv 1)) (eLv 1))) (lNil)))) [.val (.int m), .val (.int n)] g = .nx [.val (.int (Nat.gcd m n)), .val (.int 0)] g := by
  intro n
  induction n using Nat.strongRecOn with
  | ind n ih =>
    intro m g hm hn
    rw [sWhile_eq]
    by_cases h0 : n = 0
    · subst h0
      simp
    · have d1 : divOk (n : Int) = true := divOk_bd (by omega) (bd_nat hn) k0 (by omega)
      have d2 : mulOk ((m / n : Nat) : Int) (n : Int) = true := mulOk_bd (bd_div hm) (bd_nat hn) k0 k0 (by omega)
      have e0 : ¬ (n : Int) = 0 := by omega
      have hlt : m % n < n := Nat.mod_lt _ (by omega)
      have := ih (m % n) hlt n g hn (Nat.lt_trans hlt hn)
      simp [e0, h0, d1, d2, fdiv_nat, rest_nat, -Int.natCast_ediv, -Int.natCast_emod]
      rw [this, Nat.gcd_comm n (m % n), ← Nat.gcd_rec n m, Nat.gcd_comm n m]
theorem abs_if (a : Int) : (if a < 0 then -a else a) = (a.natAbs : Int) := by split <;> omega
theorem common_part_spec {K : Nat} {a b : Int} {g : Gh} (k0 : 0 < K) (k8 : K ≤ 8000) (ha : Bd K a) (hb : Bd K b) : mFun 2 2 B_common_part [.int a, .int b] g = .ok (.int (Int.gcd a b)) g := by
  have := cp_loop k0 k8 b.natAbs a.natAbs g ha hb
  simp [mFun, B_common_part, abs_if, this, endR, Int.gcd]
/-! ### lowest terms -/
/-- top and under of a ratio in lowest terms -/
def lowT (a b : Int) : Int := (if b < 0 then -a else a) / (Int.gcd a b : Int)
def lowU (a b : Int) : Int := (if b < 0 then -b else b) / (Int.gcd a b : Int)
theorem gcd_pos {a b : Int} (h : b ≠ 0) : 0 < (Int.gcd a b : Int) := by
  have : 0 < Int.gcd a b := Nat.pos_of_ne_zero (fun e => h (Int.gcd_eq_zero_iff.mp e).2)
  omega
theorem fdiv_neg_exact {a g : Int} (h : g ∣ a) (hg : 0 < g) : a.fdiv (-g) = (-a) / g := by
  obtain ⟨q, rfl⟩ := h
  have e1 : g * q = (-g) * (-q) := by rw [Int.neg_mul_neg]
  rw [e1, Int.mul_fdiv_cancel_left _ (by omega : -g ≠ 0), Int.neg_mul_neg, ← Int.mul_neg, Int.mul_ediv_cancel_left _ (by omega : g ≠ 0)]
noncomputable def B_lowest (f : FM) : MS := sSeq (sSet 2 (eCall f 2 0 [0, 1] [] (lCons (eLv 0) (lCons (eLv 1) (lNil))) (lNil))) (sSeq (sIf (tV (eCmp .Lt (eLv 1) (eC (.int 0)))) (sSet 2 (eNeg (eLv 2))) (sSkip)) (sRet (eTup (lCons (eBin .FloorDiv (eLv 0) (eLv 2)) (lCons (eBin .FloorDiv (eLv 1) (eLv 2)) (lNil))))))
theorem bd_gcd {a b : Int} {k : Nat} (h : b ≠ 0) (hb : Bd k b) : Bd k (Int.gcd a b : Int) := by
  refine Bd.le hb ?_
  have : Int.gcd a b ∣ b.natAbs := Int.gcd_dvd_natAbs_right ..
  have := Nat.le_of_dvd (by omega) this
  simpa using this
theorem lowest_spec {K : Nat} {f : FM} {a b : Int} {g : Gh} (k0 : 0 < K) (k8 : K ≤ 8000) (hf : f [.int a, .int b] g = .ok (.int (Int.gcd a b)) g) (h : b ≠ 0) (hb : Bd K b) : mFun 2 3 (B_lowest f) [.int a, .int b] g = .ok (.tup [.int (lowT a b), .int (lowU a b)]) g := by
  have hp := gcd_pos (a := a) h
  have hl : (2 : Nat) ≤ LIM := by decide
  by_cases hn : b < 0
  · have d1 : divOk (-(Int.gcd a b : Int)) = true := divOk_bd (by omega) (bd_gcd h hb).neg k0 (by omega)
    simp [mFun, B_lowest, hf, permL, hn, d1, endR, lowT, lowU, hl, fdiv_neg_exact (Int.gcd_dvd_left a b) hp, fdiv_neg_exact (Int.gcd_dvd_right a b) hp]
  · have d1 : divOk (Int.gcd a b : Int) = true := divOk_bd (by omega) (bd_gcd h hb) k0 (by omega)
    simp [mFun, B_lowest, hf, permL, hn, d1, endR, lowT, lowU, hl, Int.fdiv_eq_ediv_of_nonneg _ (Int.le_of_lt hp)]
/-- the law's own way -/
noncomputable def B_law_lowest : MS := sSeq (sPar 2 3 (lCons (eBi oAbs (lCons (eLv 0) (lNil))) (lCons (eBi oAbs (lCons (eLv 1) (lNil))) (lNil)))) (sSeq (sWhile (tV (eCmp .NotEq (eLv 3) (eC (.int 0)))) (sPar 2 3 (lCons (eLv 3) (lCons (eBin .Mod (eLv 2) (eLv 3)) (lNil))))) (sSeq (sSet 4 (eSub (eNew (fLst (lCons (eC (.int 1)) (lCons (eNeg (eC (.int 1))) (lNil))))) (eBi oInt (lCons (eCmp .Lt (eLv 1) (eC (.int 0))) (lNil))))) (sRet (eTup (lCons (eBin .FloorDiv (eBin .Mult (eLv 4) (eLv 0)) (eLv 2)) (lCons (eBin .FloorDiv (eBin .Mult (eLv 4) (eLv 1)) (eLv 2)) (lNil)))))))
theorem ll_loop (x y z : Sl) : ∀ (n m : Nat) (g : Gh),
    sWhile (tV (eCmp .NotEq (eLv 3) (eC (.int 0)))) (sPar 2 3 (lCons (eLv 3) (lCons (eBin .Mod (eLv 2) (eLv 3)) (lNil)))) [x, y, .val (.int m), .val (.int n), z] g = .nx [x, y, .val (.int (Nat.gcd m n)), .val (.int 0), z] g := by
  intro n
  induction n using Nat.strongRecOn with
  | ind n ih =>
    intro m g
    rw [sWhile_eq]
    by_cases h0 : n = 0
    · subst h0
      simp
    · have e0 : ¬ (n : Int) = 0 := by omega
      have hlt : m % n < n := Nat.mod_lt _ (by omega)
      have := ih (m % n) hlt n g
      simp [e0, h0, fmod_nat, -Int.natCast_emod]
      rw [this, Nat.gcd_comm n (m % n), ← Nat.gcd_rec n m, Nat.gcd_comm n m]
theorem law_lowest_spec {K : Nat} {a b : Int} {g : Gh} (k0 : 0 < K) (k8 : K ≤ 8000) (h : b ≠ 0) (hb : Bd K b) : mFun 2 5 B_law_lowest [.int a, .int b] g = .ok (.tup [.int (lowT a b), .int (lowU a b)]) g := by
  have hp := gcd_pos (a := a) h
  have hl : (2 : Nat) ≤ LIM := by decide
  have d1 : divOk (Int.gcd a b : Int) = true := divOk_bd (by omega) (bd_gcd h hb) k0 (by omega)
  have d1' : divOk ((a.natAbs.gcd b.natAbs : Nat) : Int) = true := d1
  have lp := ll_loop (.val (.int a)) (.val (.int b)) .un b.natAbs a.natAbs g
  have m1 : ∀ z : Int, mulOk 1 z = true := fun z => mulOk_left (by decide)
  have m2 : ∀ z : Int, mulOk (-1) z = true := fun z => mulOk_left (by decide)
  have fd : ∀ z : Int, z.fdiv ((a.natAbs.gcd b.natAbs : Nat) : Int) = z / (Int.gcd a b : Int) := fun z => Int.fdiv_eq_ediv_of_nonneg _ (by omega)
  have eb : (b.natAbs : Int) = if b < 0 then -b else b := (abs_if b).symm
  have ea : (a.natAbs : Int) = if a < 0 then -a else a := (abs_if a).symm
  rw [ea, eb] at lp
  by_cases hn : b < 0
  · simp only [hn, if_true] at lp
    simp [mFun, B_law_lowest, lp, hn, hl, atI, ixN, m2, d1', endR, lowT, lowU, fd]
  · simp only [hn, if_false] at lp
    simp [mFun, B_law_lowest, lp, hn, hl, atI, ixN, m1, d1', endR, lowT, lowU, fd]

/-! ### ratios in lowest terms -/
/-- a ratio: lowest terms, under above 0 -/
structure IsR (p q : Int) : Prop where
  pos : 0 < q
  low : Int.gcd p q = 1
theorem low_isR {a b : Int} (h : b ≠ 0) : IsR (lowT a b) (lowU a b) := by
  have hp := gcd_pos (a := a) h
  have hg : 0 < Int.gcd a b := by omega
  have key : ∀ x y : Int, Int.gcd x y = Int.gcd a b → 0 < y → 0 < y / (Int.gcd a b : Int) ∧ Int.gcd (x / (Int.gcd a b : Int)) (y / (Int.gcd a b : Int)) = 1 := fun x y e hy => by
    have dx : (Int.gcd a b : Int) ∣ x := by rw [← e]; exact Int.gcd_dvd_left x y
    have dy : (Int.gcd a b : Int) ∣ y := by rw [← e]; exact Int.gcd_dvd_right x y
    refine ⟨?_, ?_⟩
    · obtain ⟨k, rfl⟩ := dy
      rw [Int.mul_ediv_cancel_left _ (by omega)]
      exact Int.pos_of_mul_pos_left (by rw [Int.mul_comm]; exact hy) hp
    · rw [Int.gcd_ediv dx dy, e]
      simp only [Int.natAbs_natCast]
      exact Nat.div_self hg
  unfold lowT lowU
  by_cases hn : b < 0
  · simp only [hn, if_true]
    obtain ⟨h1, h2⟩ := key (-a) (-b) (by rw [Int.gcd_neg, Int.neg_gcd]) (by omega)
    exact ⟨h1, h2⟩
  · simp only [hn, if_false]
    obtain ⟨h1, h2⟩ := key a b rfl (by omega)
    exact ⟨h1, h2⟩
theorem bd_lowT {a b : Int} {k : Nat} (ha : Bd k a) : Bd k (lowT a b) := by
  have h1 : a.natAbs < 2 ^ k := ha
  show (lowT a b).natAbs < 2 ^ k
  unfold lowT
  have : ∀ x : Int, x.natAbs = a.natAbs → (x / (Int.gcd a b : Int)).natAbs < 2 ^ k := fun x e => by
    have := Int.natAbs_ediv_le_natAbs x (Int.gcd a b : Int)
    omega
  by_cases hn : b < 0
  · simp only [hn, if_true]; exact this _ (by omega)
  · simp only [hn, if_false]; exact this _ rfl
theorem bd_lowU {a b : Int} {k : Nat} (hb : Bd k b) : Bd k (lowU a b) := by
  have h1 : b.natAbs < 2 ^ k := hb
  show (lowU a b).natAbs < 2 ^ k
  unfold lowU
  have : ∀ x : Int, x.natAbs = b.natAbs → (x / (Int.gcd a b : Int)).natAbs < 2 ^ k := fun x e => by
    have := Int.natAbs_ediv_le_natAbs x (Int.gcd a b : Int)
    omega
  by_cases hn : b < 0
  · simp only [hn, if_true]; exact this _ (by omega)
  · simp only [hn, if_false]; exact this _ rfl
end GL
/-! GL part 17: the bag of draws. -/
namespace GL
open PySem L2
noncomputable def bagIf : MS := (sIf (tV (eCmp .Lt (eLv 1) (eBi oLen (lCons (eLv 0) (lNil))))) (sSet 2 (eBi oAbs (lCons (eSub (eLv 0) (eLv 1)) (lNil)))) (sSkip))
noncomputable def B_bag : MS := sSeq (sSet 2 (eC (.int 0))) (sSeq bagIf (sSeq (sSet 3 (eSub (eNew (fLst (lCons (eC (.int 2147483629)) (lCons (eC (.int 2147483587)) (lCons (eC (.int 2147483579)) (lCons (eC (.int 2147483563)) (lCons (eC (.int 2147483549)) (lCons (eC (.int 2147483543)) (lCons (eC (.int 2147483497)) (lCons (eC (.int 2147483489)) (lNil))))))))))) (eBin .Mod (eLv 1) (eC (.int 8))))) (sRet (eAlloc (fLst (lCons (eBin .Mult (eLv 2) (eBi oInt (lCons (eCmp .GtE (eLv 2) (eBin .Pow (eC (.int 10)) (eC (.int 18)))) (lNil)))) (lCons (eBin .Mod (eBin .Pow (eBin .Add (eBin .Add (eBin .Mod (eLv 2) (eC (.int 2147483647))) (eBin .Mult (eC (.int 104729)) (eLv 1))) (eC (.int 7))) (eC (.int 5))) (eLv 3)) (lCons (eLv 3) (lCons (eC (.int 0)) (lNil))))))))))
noncomputable def B_take : MS := sSeq (sIf (tV (eCmp .Gt (eSub (eLv 0) (eC (.int 0))) (eC (.int 0)))) (sSeq (sSet 2 (eBin .Mod (eSub (eLv 0) (eC (.int 0))) (eLv 1))) (sSeq (sSetIx (eBin .FloorDiv (eSub (eLv 0) (eC (.int 0))) (eLv 1)) (eLv 0) (eC (.int 0))) (sRet (eLv 2)))) (sSkip)) (sSeq (sSetIx (eBin .Add (eSub (eLv 0) (eC (.int 3))) (eC (.int 1))) (eLv 0) (eC (.int 3))) (sSeq (sSetIx (eBin .Mod (eBin .Add (eBin .Add (eBin .Mult (eSub (eLv 0) (eC (.int 1))) (eC (.int 48271))) (eBin .Mult (eC (.int 7919)) (eSub (eLv 0) (eC (.int 3))))) (eC (.int 11))) (eSub (eLv 0) (eC (.int 2)))) (eLv 0) (eC (.int 1))) (sRet (eBin .Mod (eBin .Mod (eBin .Pow (eBin .FloorDiv (eSub (eLv 0) (eC (.int 1))) (eC (.int 8))) (eC (.int 3))) (eC (.int 2147483629))) (eLv 1)))))
/-- the bag as a mutable object -/
def Bag (o : O) : Prop := ∃ a b c d : Int, o = .lst [.int a, .int b, .int c, .int d] ∧ 0 ≤ a ∧ (0 ≤ b ∧ b < 4294967296) ∧ (0 < c ∧ c < 4294967296)
def HasBag (n : Nat) (g : Gh) : Prop := ∃ o, g[n]? = some o ∧ Bag o
theorem fmod_lo {a m : Int} (h : 0 < m) : 0 ≤ a.fmod m := Int.fmod_nonneg_of_pos a h
theorem fmod_hi {a m : Int} (h : 0 < m) : a.fmod m < m := Int.fmod_lt_of_pos a h
theorem fdiv_lo {a m : Int} (h0 : 0 ≤ a) (h : 0 < m) : 0 ≤ a.fdiv m := by
  rw [Int.fdiv_eq_ediv_of_nonneg _ (Int.le_of_lt h)]; exact Int.ediv_nonneg h0 (Int.le_of_lt h)
theorem fdiv_le {a m : Int} (h0 : 0 ≤ a) (h : 0 < m) : a.fdiv m ≤ a := by
  rw [Int.fdiv_eq_ediv_of_nonneg _ (Int.le_of_lt h)]; exact Int.ediv_le_self _ h0
theorem atI4 {x0 x1 x2 x3 : D} : atI [x0, x1, x2, x3] 0 = some x0 ∧ atI [x0, x1, x2, x3] 1 = some x1 ∧ atI [x0, x1, x2, x3] 2 = some x2 ∧ atI [x0, x1, x2, x3] 3 = some x3 := ⟨rfl, rfl, rfl, rfl⟩
theorem ix4 : ixN 4 0 = some 0 ∧ ixN 4 1 = some 1 ∧ ixN 4 3 = some 3 := ⟨rfl, rfl, rfl⟩
theorem set_get {g : Gh} {n : Nat} {o o' : O} (h : g[n]? = some o) : (g.set n o')[n]? = some o' := by
  obtain ⟨hl, _⟩ := List.getElem?_eq_some_iff.mp h
  simp [hl]
theorem take_o {n : Nat} {g : Gh} {o : O} {m : Int} (hg : g[n]? = some o) (hb : Bag o) (h0 : 0 < m) (h1 : Bd 64 m) :
    ∃ r o', (0 ≤ r ∧ r < m) ∧ Bag o' ∧ mFun 2 3 B_take [.loc n, .int m] g = .ok (.int r) (g.set n o') := by
  obtain ⟨a, b, c, d, rfl, ha, ⟨hb0, hb1⟩, hc0, hc1⟩ := hb
  have hd := deref_loc hg
  have hm : m ≠ 0 := by omega
  by_cases hp : 0 < a
  · have d1 : divOk m = true := divOk_bd hm h1 (by decide) (by decide)
    refine ⟨a.fmod m, .lst [.int (a.fdiv m), .int b, .int c, .int d], ⟨fmod_lo h0, fmod_hi h0⟩, ⟨_, _, _, _, rfl, fdiv_lo ha h0, ⟨hb0, hb1⟩, hc0, hc1⟩, ?_⟩
    simp [mFun, B_take, hd, atI4, ix4, hp, hm, d1, hg, endR]
  · have hc : c ≠ 0 := by omega
    have e1 := set_get (o' := .lst [.int a, .int b, .int c, .int (d + 1)]) hg
    have hd1 := deref_loc e1
    have f1 : (0 : Int) ≤ (b * 48271 + 7919 * (d + 1) + 11).fmod c := fmod_lo hc0
    have f2 : (b * 48271 + 7919 * (d + 1) + 11).fmod c < c := fmod_hi hc0
    have e2 := set_get (o' := .lst [.int a, .int ((b * 48271 + 7919 * (d + 1) + 11).fmod c), .int c, .int (d + 1)]) hg
    have hd2 := deref_loc e2
    have m1 : ∀ x : Int, mulOk x 48271 = true := fun x => mulOk_right (by decide)
    have m2 : ∀ x : Int, mulOk 7919 x = true := fun x => mulOk_left (by decide)
    have d1 : divOk 8 = true := divOk_bd (b := 4) (by decide) (by decide) (by decide) (by decide)
    have q1 := fdiv_lo f1 (m := 8) (by decide)
    have q2 := fdiv_le f1 (m := 8) (by decide)
    have p1 : powOk (((b * 48271 + 7919 * (d + 1) + 11).fmod c).fdiv 8) 3 = true := powOk_bd (by decide) (by decide) (by show Int.natAbs _ < 2 ^ 64; omega)
    refine ⟨((((b * 48271 + 7919 * (d + 1) + 11).fmod c).fdiv 8) ^ 3).fmod 2147483629 |>.fmod m, .lst [.int a, .int ((b * 48271 + 7919 * (d + 1) + 11).fmod c), .int c, .int (d + 1)], ⟨fmod_lo h0, fmod_hi h0⟩, ⟨_, _, _, _, rfl, ha, ⟨f1, by omega⟩, hc0, hc1⟩, ?_⟩
    simp [mFun, B_take, hd, hd1, hd2, atI4, ix4, hp, hc, hm, d1, m1, m2, p1, hg, e1, e2, endR]
/-- a draw keeps the bag, and all else -/
theorem take_spec {n : Nat} {g : Gh} {m : Int} (hb : HasBag n g) (h0 : 0 < m) (h1 : Bd 64 m) :
    ∃ r g', (0 ≤ r ∧ r < m) ∧ (HasBag n g' ∧ g'.length = g.length ∧ ∀ j, j ≠ n → g'[j]? = g[j]?) ∧ mFun 2 3 B_take [.loc n, .int m] g = .ok (.int r) g' := by
  obtain ⟨o, hg, ho⟩ := hb
  obtain ⟨r, o', hr, ho', e⟩ := take_o hg ho h0 h1
  refine ⟨r, _, hr, ⟨⟨o', set_get hg, ho'⟩, by simp, fun j hj => ?_⟩, e⟩
  rw [List.getElem?_set_ne (Ne.symm hj)]
theorem bag_spec {ns : List Int} {k : Nat} {g : Gh} (hk : k ≤ 1000000) : ∃ o, Bag o ∧ mFun 2 4 B_bag [.arr ns, .int k] g = .ok (.loc g.length) (g ++ [o]) := by
  have m1 : ∀ x : Int, mulOk 104729 x = true := fun x => mulOk_left (by decide)
  have m2 : ∀ x : Int, mulOk x 1 = true := fun x => mulOk_right (by decide)
  have m3 : ∀ x : Int, mulOk x 0 = true := fun x => mulOk_right (by decide)
  have hl : (8 : Nat) ≤ LIM := by decide
  have hl4 : (4 : Nat) ≤ LIM := by decide
  have p0 : powOk 10 18 = true := powOk_bd (by decide) (by decide) (by decide)
  obtain ⟨p, hp0, hp1, hpr⟩ : ∃ p : Int, 0 < p ∧ p < 4294967296 ∧ atI [D.int 2147483629, .int 2147483587, .int 2147483579, .int 2147483563, .int 2147483549, .int 2147483543, .int 2147483497, .int 2147483489] ((k : Int).fmod 8) = some (.int p) := by
    have h1 := fmod_lo (a := (k : Int)) (m := 8) (by decide)
    have h2 := fmod_hi (a := (k : Int)) (m := 8) (by decide)
    generalize (k : Int).fmod 8 = z at *
    have : z = 0 ∨ z = 1 ∨ z = 2 ∨ z = 3 ∨ z = 4 ∨ z = 5 ∨ z = 6 ∨ z = 7 := by omega
    rcases this with rfl | rfl | rfl | rfl | rfl | rfl | rfl | rfl <;> exact ⟨_, by decide, by decide, rfl⟩
  have hpn : p ≠ 0 := by omega
  have fin : ∀ G : Int, 0 ≤ G → (∀ g : Gh, bagIf [.val (.arr ns), .val (.int k), .val (.int 0), .un] g = .nx [.val (.arr ns), .val (.int k), .val (.int G), .un] g) → ∃ o, Bag o ∧ mFun 2 4 B_bag [.arr ns, .int k] g = .ok (.loc g.length) (g ++ [o]) := fun G hG e => by
    have f1 := fmod_lo (a := G) (m := 2147483647) (by decide)
    have f2 := fmod_hi (a := G) (m := 2147483647) (by decide)
    have p1 : powOk (G.fmod 2147483647 + 104729 * (k : Int) + 7) 5 = true := powOk_bd (by decide) (by decide) (by show Int.natAbs _ < 2 ^ 64; omega)
    by_cases hg : 1000000000000000000 ≤ G
    · refine ⟨.lst [.int G, .int (((G.fmod 2147483647 + 104729 * (k : Int) + 7) ^ 5).fmod p), .int p, .int 0], ⟨_, _, _, _, rfl, hG, ⟨fmod_lo hp0, Int.lt_trans (fmod_hi hp0) hp1⟩, hp0, hp1⟩, ?_⟩
      simp [mFun, B_bag, e, hpr, hl, p0, p1, m1, m2, hpn, hg, hl4, endR]
    · refine ⟨.lst [.int 0, .int (((G.fmod 2147483647 + 104729 * (k : Int) + 7) ^ 5).fmod p), .int p, .int 0], ⟨_, _, _, _, rfl, by decide, ⟨fmod_lo hp0, Int.lt_trans (fmod_hi hp0) hp1⟩, hp0, hp1⟩, ?_⟩
      simp [mFun, B_bag, e, hpr, hl, p0, p1, m1, m3, hpn, hg, hl4, endR]
  by_cases hlt : k < ns.length
  · have : atI ns (k : Int) = some ns[k] := by
      unfold atI
      rw [ixN_nat hlt]
      simp [hlt]
    refine fin (if ns[k] < 0 then -ns[k] else ns[k]) (by split <;> omega) fun g => ?_
    simp [bagIf, hlt, this]
  · refine fin 0 (by decide) fun g => ?_
    simp [bagIf, hlt]
end GL
/-! GL part 18: what may be shown by repr; equal data. -/
namespace GL
open PySem L2
mutual
/-- all ints of less than k bits -/
def bdD (k : Nat) : D → Bool
  | .int i => decide (i.natAbs < 2 ^ k)
  | .tup xs => bdDs k xs
  | .lst xs => bdDs k xs
  | _ => true
def bdDs (k : Nat) : List D → Bool
  | [] => true
  | x :: xs => bdD k x && bdDs k xs
end
mutual
theorem short_of (k : Nat) (h0 : 0 < k) (h1 : k ≤ 1920) : ∀ (d : D) (n : Nat), okD d n = true → bdD k d = true → (toP d).leavesShort (k + 1) = true ∧ (toP d).showable = true
  | .non, _, _, _ => ⟨rfl, rfl⟩
  | .bl _, _, _, _ => ⟨rfl, rfl⟩
  | .loc _, _, _, _ => ⟨rfl, rfl⟩
  | .fn _, _, _, _ => ⟨rfl, rfl⟩
  | .arr _, _, _, _ => ⟨rfl, rfl⟩
  | .int i, _, _, h => by
    have h : i.natAbs < 2 ^ k := by simpa only [bdD, decide_eq_true_eq] using h
    have hl : i.natAbs.log2 < k := log2_of h0 h
    refine ⟨?_, ?_⟩
    · simp only [toP, PyData.leavesShort, decide_eq_true_eq]
      show (PySem.Str.ofString (toString i)).length ≤ _
      rw [PySem.ofString_length]
      exact PySem.int_text_length_le (k := k) h0 hl
    · simp only [toP, PyData.showable, decide_eq_true_eq]; omega
  | .str x, n, h, _ => by
    have h : PyData.strOk x = true := by simpa only [okD] using h
    refine ⟨PyData.leavesShort_of_canLay0 _ _ (by simpa only [toP, PyData.canLay0] using h) rfl, rfl⟩
  | .tup xs, 0, h, _ => by simp only [okD] at h; exact nomatch h
  | .tup xs, n + 1, h, hb => by
    have := shorts_of k h0 h1 xs n (by simpa only [okD] using h) (by simpa only [bdD] using hb)
    simpa only [toP, PyData.leavesShort, PyData.showable] using this
  | .lst xs, 0, h, _ => by simp only [okD] at h; exact nomatch h
  | .lst xs, n + 1, h, hb => by
    have := shorts_of k h0 h1 xs n (by simpa only [okD] using h) (by simpa only [bdD] using hb)
    simpa only [toP, PyData.leavesShort, PyData.showable] using this
theorem shorts_of (k : Nat) (h0 : 0 < k) (h1 : k ≤ 1920) : ∀ (xs : List D) (n : Nat), okDs xs n = true → bdDs k xs = true → PyData.leavesShortAll (k + 1) (toPs xs) = true ∧ PyData.showableAll (toPs xs) = true
  | [], _, _, _ => ⟨rfl, rfl⟩
  | x :: xs, n, h, hb => by
    have h : okD x n = true ∧ okDs xs n = true := by simpa only [okDs, Bool.and_eq_true] using h
    have hb : bdD k x = true ∧ bdDs k xs = true := by simpa only [bdDs, Bool.and_eq_true] using hb
    have a := short_of k h0 h1 x n h.1 hb.1
    have b := shorts_of k h0 h1 xs n h.2 hb.2
    simp only [toPs, PyData.leavesShortAll, PyData.showableAll, a.1, a.2, b.1, b.2, Bool.and_self, and_self]
end
mutual
/-- how long data may be shown, ints of less than k bits -/
def wtD (k : Nat) : D → Nat
  | .str x => 10 * x.length + 2
  | .tup xs => wtDs k xs + 3
  | .lst xs => wtDs k xs + 3
  | .int _ => k + 1
  | _ => 5
def wtDs (k : Nat) : List D → Nat
  | [] => 0
  | x :: xs => wtD k x + 2 + wtDs k xs
end
mutual
theorem wt_le (k : Nat) : ∀ d : D, (toP d).leavesShort (k + 1) = true → (toP d).shown.length ≤ wtD k d
  | .non, _ => show (PyData.shown .none).length ≤ 5 from by decide
  | .bl true, _ => show (PyData.shown (.bool true)).length ≤ 5 from by decide
  | .bl false, _ => show (PyData.shown (.bool false)).length ≤ 5 from by decide
  | .loc _, _ => show (PyData.shown .none).length ≤ 5 from by decide
  | .fn _, _ => show (PyData.shown .none).length ≤ 5 from by decide
  | .arr _, _ => show (PyData.shown .none).length ≤ 5 from by decide
  | .int i, h => by simpa only [toP, PyData.leavesShort, decide_eq_true_eq, wtD] using h
  | .str x, h => by
    simp only [toP, PyData.leavesShort, List.all_eq_true, decide_eq_true_eq] at h
    simp only [toP, wtD, PyData.shown]
    exact StrLaws.reprText_len x h
  | .tup xs, h => by
    have h1 := wts_le k xs (by simpa only [toP, PyData.leavesShort] using h)
    have h2 := tupleText_len_le (PyData.shownAll (toPs xs))
    simp only [toP, PyData.shown, wtD]
    omega
  | .lst xs, h => by
    have h1 := wts_le k xs (by simpa only [toP, PyData.leavesShort] using h)
    have h2 := listText_len_le (PyData.shownAll (toPs xs))
    simp only [toP, PyData.shown, wtD]
    omega
theorem wts_le (k : Nat) : ∀ xs : List D, PyData.leavesShortAll (k + 1) (toPs xs) = true → ((PyData.shownAll (toPs xs)).map (·.length)).sum + 2 * (PyData.shownAll (toPs xs)).length ≤ wtDs k xs
  | [], _ => by simp only [toPs, PyData.shownAll, List.map_nil, List.sum_nil, List.length_nil]; omega
  | x :: xs, h => by
    have h : (toP x).leavesShort (k + 1) = true ∧ PyData.leavesShortAll (k + 1) (toPs xs) = true := by simpa only [toPs, PyData.leavesShortAll, Bool.and_eq_true] using h
    have a := wt_le k x h.1
    have b := wts_le k xs h.2
    simp only [toPs, PyData.shownAll, wtDs, List.map_cons, List.sum_cons, List.length_cons]; omega
end
theorem rpr_ok (k w : Nat) {d : D} (h0 : 0 < k) (h1 : k ≤ 1920) (ho : okD d 64 = true) (hb : bdD k d = true) (hw : wtD k d ≤ w) (hl : w ≤ LIM) : rprOk d = true := by
  have a := short_of k h0 h1 d 64 ho hb
  have c := wt_le k d a.1
  simp only [rprOk, ho, a.2, Bool.true_and, decide_eq_true_eq]
  show (toP d).shown.length ≤ LIM
  omega
mutual
theorem eqD_rfl : ∀ (d : D) (n : Nat), okD d n = true → eqD d d = true
  | .non, _, _ => rfl
  | .bl b, _, _ => by simp [eqD]
  | .int i, _, _ => by simp [eqD]
  | .str x, _, _ => by simp [eqD]
  | .tup xs, 0, h => by simp only [okD] at h; exact nomatch h
  | .tup xs, n + 1, h => by simp only [okD] at h; simp only [eqD]; exact eqDs_rfl xs n h
  | .lst xs, 0, h => by simp only [okD] at h; exact nomatch h
  | .lst xs, n + 1, h => by simp only [okD] at h; simp only [eqD]; exact eqDs_rfl xs n h
  | .loc _, _, h => by simp only [okD] at h; exact nomatch h
  | .fn _, _, h => by simp only [okD] at h; exact nomatch h
  | .arr _, _, h => by simp only [okD] at h; exact nomatch h
theorem eqDs_rfl : ∀ (xs : List D) (n : Nat), okDs xs n = true → eqDs xs xs = true
  | [], _, _ => rfl
  | x :: xs, n, h => by
    have h : okD x n = true ∧ okDs xs n = true := by simpa only [okDs, Bool.and_eq_true] using h
    simp only [eqDs, eqD_rfl x n h.1, eqDs_rfl xs n h.2, Bool.and_self]
end
theorem okD_deref {d : D} {n : Nat} {g : Gh} (h : okD d n = true) : deref g d = d := by
  cases d <;> first | rfl | (simp only [okD] at h; exact nomatch h)
/-- != of data that are the same -/
theorem ne_same {d : D} {g : Gh} (h : okD d 64 = true) : cmpop .NotEq d d g = .ok (.bl false) g := by
  rw [ne_ap, okD_deref h, okE, h, eqD_rfl d 64 h, Bool.and_self, Bool.and_self, Bool.or_true]; rfl
theorem eq_same {d : D} {g : Gh} (h : okD d 64 = true) : cmpop .Eq d d g = .ok (.bl true) g := by
  rw [eq_ap, okD_deref h, okE, h, eqD_rfl d 64 h, Bool.and_self, Bool.and_self, Bool.or_true]; rfl
/-- repr of data, whole -/
theorem repr_ap {d : D} {g : Gh} (h : rprOk d = true) : oRepr [d] g = .ok (.str (reprS d)) g := by
  have h' := h
  simp only [rprOk, Bool.and_eq_true] at h'
  show guardR (rprOk (deref g d)) (.str (reprS (deref g d))) g = _
  rw [okD_deref h'.1.1, h]; rfl
theorem neS_ap {x y : Str} {g : Gh} : cmpop .NotEq (.str x) (.str y) g = .ok (.bl (!(x == y))) g := by
  rw [ne_ap]; simp [okE, strD, eqD]
theorem eqS_ap {x y : Str} {g : Gh} : cmpop .Eq (.str x) (.str y) g = .ok (.bl (x == y)) g := by
  rw [eq_ap]; simp [okE, strD, eqD]
@[simp] theorem neS_same {x : Str} {g : Gh} : cmpop .NotEq (.str x) (.str x) g = .ok (.bl false) g := by
  rw [neS_ap]; simp
@[simp] theorem eqS_same {x : Str} {g : Gh} : cmpop .Eq (.str x) (.str x) g = .ok (.bl true) g := by
  rw [eqS_ap]; simp
theorem eqS_no {x y : Str} {g : Gh} (h : (x == y) = false) : cmpop .Eq (.str x) (.str y) g = .ok (.bl false) g := by
  rw [eqS_ap, h]
theorem asBls_true : ∀ xs : List D, (∀ x ∈ xs, x = .bl true) → ∃ bs, asBls xs = some bs ∧ bs.all id = true
  | [], _ => ⟨[], rfl, rfl⟩
  | x :: xs, h => by
    obtain ⟨bs, e, a⟩ := asBls_true xs fun x hx => h x (List.mem_cons_of_mem _ hx)
    have := h x List.mem_cons_self
    subst this
    exact ⟨true :: bs, by simp [asBls, e], by simpa using a⟩
theorem all_true {xs : List D} {g : Gh} (h : ∀ x ∈ xs, x = .bl true) : oAll [.lst xs] g = .ok (.bl true) g := by
  obtain ⟨bs, e, a⟩ := asBls_true xs h
  simp [oAll, e, a]
end GL
/-! GL part 19: ratios as rational numbers. -/
namespace GL
open PySem L2
theorem bd_of {n : Nat} {x : Int} (h : x.natAbs < 2 ^ n) : Bd n x := h
theorem a20 {x y : D} : atI [x, y] 0 = some x := rfl
theorem a21 {x y : D} : atI [x, y] 1 = some y := rfl
theorem lim2 : (2 : Nat) ≤ LIM := by decide
theorem lim3 : (3 : Nat) ≤ LIM := by decide
theorem lim4 : (4 : Nat) ≤ LIM := by decide
theorem lim5 : (5 : Nat) ≤ LIM := by decide
theorem lim8 : (8 : Nat) ≤ LIM := by decide
/-- a ratio in lowest terms -/
def dR (r : Rat) : D := .tup [.int r.num, .int r.den]
theorem low_rat {a b : Int} (h : b ≠ 0) : D.tup [.int (lowT a b), .int (lowU a b)] = dR (Rat.divInt a b) := by
  unfold dR lowT lowU
  rw [Rat.num_divInt, Rat.den_divInt, if_neg h, Int.gcd_comm b a]
  have hu : (((b.natAbs / Int.gcd a b : Nat)) : Int) = (b.natAbs : Int) / (Int.gcd a b : Int) := Int.natCast_ediv ..
  rw [hu]
  by_cases hn : b < 0
  · rw [if_pos hn, if_pos hn, Int.sign_eq_neg_one_of_neg hn, show (b.natAbs : Int) = -b by omega, Int.neg_one_mul]
  · rw [if_neg hn, if_neg hn, Int.sign_eq_one_of_pos (by omega), show (b.natAbs : Int) = b by omega, Int.one_mul]
/-- both parts of less than k bits -/
def Sz (k : Nat) (r : Rat) : Prop := Bd k r.num ∧ Bd k (r.den : Int)
theorem Sz.mono {k l : Nat} {r : Rat} (h : Sz k r) (hl : k ≤ l) : Sz l r := ⟨h.1.mono hl, h.2.mono hl⟩
theorem dR_inj {r s : Rat} (h : dR r = dR s) : r = s := by
  simp only [dR, D.tup.injEq, List.cons.injEq, D.int.injEq, and_true] at h
  exact Rat.ext h.1 (by omega)
theorem Sz.div {k : Nat} {a b : Int} (h : b ≠ 0) (ha : Bd k a) (hb : Bd k b) : Sz k (Rat.divInt a b) := by
  have e := low_rat (a := a) h
  simp only [dR, D.tup.injEq, List.cons.injEq, D.int.injEq, and_true] at e
  exact ⟨e.1 ▸ bd_lowT ha, e.2 ▸ bd_lowU hb⟩
theorem den_ne (r : Rat) : (r.den : Int) ≠ 0 := by have := r.den_pos; omega
theorem add_num (r s : Rat) : Rat.divInt (r.num * s.den + s.num * r.den) (r.den * s.den) = r + s := by
  conv => rhs; rw [← Rat.num_divInt_den r, ← Rat.num_divInt_den s]
  rw [Rat.divInt_add_divInt _ _ (den_ne r) (den_ne s)]
theorem sub_num (r s : Rat) : Rat.divInt (r.num * s.den + -(s.num * r.den)) (r.den * s.den) = r - s := by
  conv => rhs; rw [Rat.sub_eq_add_neg, ← Rat.num_divInt_den r, ← Rat.num_divInt_den s, Rat.neg_divInt]
  rw [Rat.divInt_add_divInt _ _ (den_ne r) (den_ne s), Int.neg_mul]
theorem mul_num (r s : Rat) : Rat.divInt (r.num * s.num) (r.den * s.den) = r * s := by
  conv => rhs; rw [← Rat.num_divInt_den r, ← Rat.num_divInt_den s]
  rw [Rat.divInt_mul_divInt]
theorem div_num (r s : Rat) : Rat.divInt (r.num * s.den) (r.den * s.num) = r / s := by
  conv => rhs; rw [Rat.div_def, ← Rat.num_divInt_den r, ← Rat.num_divInt_den s, Rat.inv_divInt]
  rw [Rat.divInt_mul_divInt]
section
variable {k : Nat} {r s : Rat}
theorem dd_ne : (r.den : Int) * s.den ≠ 0 := Int.mul_ne_zero (den_ne r) (den_ne s)
theorem Sz.add (hr : Sz k r) (hs : Sz k s) : Sz (2 * k + 1) (r + s) := by
  rw [← add_num]
  refine .div dd_ne ?_ ((hr.2.mul hs.2).mono (by omega))
  have := (hr.1.mul hs.2).add (hs.1.mul hr.2)
  exact this.mono (by omega)
theorem Sz.sub (hr : Sz k r) (hs : Sz k s) : Sz (2 * k + 1) (r - s) := by
  rw [← sub_num]
  refine .div dd_ne ?_ ((hr.2.mul hs.2).mono (by omega))
  have := (hr.1.mul hs.2).add (hs.1.mul hr.2).neg
  exact this.mono (by omega)
theorem Sz.mul (hr : Sz k r) (hs : Sz k s) : Sz (2 * k + 1) (r * s) := by
  rw [← mul_num]
  exact .div dd_ne ((hr.1.mul hs.1).mono (by omega)) ((hr.2.mul hs.2).mono (by omega))
theorem num_ne (h : s ≠ 0) : s.num ≠ 0 := fun e => h (Rat.num_eq_zero.mp e)
theorem Sz.quot (hr : Sz k r) (hs : Sz k s) (h : s ≠ 0) : Sz (2 * k + 1) (r / s) := by
  rw [← div_num]
  exact .div (Int.mul_ne_zero (den_ne r) (num_ne h)) ((hr.1.mul hs.2).mono (by omega)) ((hr.2.mul hs.1).mono (by omega))
end
/-- lowest, as it is told for ints of less than K bits -/
def LowF (K : Nat) (f : FM) : Prop := ∀ (a b : Int) (g : Gh), b ≠ 0 → Bd K a → Bd K b → f [.int a, .int b] g = .ok (dR (Rat.divInt a b)) g
theorem lowF_of {K : Nat} {f : FM} (k0 : 0 < K) (k8 : K ≤ 8000) (hf : ∀ (a b : Int) (g : Gh), Bd K a → Bd K b → f [.int a, .int b] g = .ok (.int (Int.gcd a b)) g) : LowF K (mFun 2 3 (B_lowest f)) := fun a b g h ha hb => by
  rw [lowest_spec k0 k8 (hf a b g ha hb) h hb, low_rat h]
theorem lawLow {K : Nat} (k0 : 0 < K) (k8 : K ≤ 8000) : LowF K (mFun 2 5 B_law_lowest) := fun a b g h ha hb => by
  rw [law_lowest_spec k0 k8 h hb, low_rat h]
noncomputable def B_plus (f : FM) : MS := sRet (eCall f 2 0 [0, 1] [] (lCons (eBin .Add (eBin .Mult (eSub (eLv 0) (eC (.int 0))) (eSub (eLv 1) (eC (.int 1)))) (eBin .Mult (eSub (eLv 1) (eC (.int 0))) (eSub (eLv 0) (eC (.int 1))))) (lCons (eBin .Mult (eSub (eLv 0) (eC (.int 1))) (eSub (eLv 1) (eC (.int 1)))) (lNil))) (lNil))
noncomputable def B_minus (f : FM) : MS := sRet (eCall f 2 0 [0, 1] [] (lCons (eLv 0) (lCons (eTup (lCons (eNeg (eSub (eLv 1) (eC (.int 0)))) (lCons (eSub (eLv 1) (eC (.int 1))) (lNil)))) (lNil))) (lNil))
noncomputable def B_times (f : FM) : MS := sRet (eCall f 2 0 [0, 1] [] (lCons (eBin .Mult (eSub (eLv 0) (eC (.int 0))) (eSub (eLv 1) (eC (.int 0)))) (lCons (eBin .Mult (eSub (eLv 0) (eC (.int 1))) (eSub (eLv 1) (eC (.int 1)))) (lNil))) (lNil))
noncomputable def B_over (f : FM) : MS := sRet (eIf (tV (eCmp .Eq (eSub (eLv 1) (eC (.int 0))) (eC (.int 0)))) (eC .non) (eCall f 2 0 [0, 1] [] (lCons (eBin .Mult (eSub (eLv 0) (eC (.int 0))) (eSub (eLv 1) (eC (.int 1)))) (lCons (eBin .Mult (eSub (eLv 0) (eC (.int 1))) (eSub (eLv 1) (eC (.int 0)))) (lNil))) (lNil)))
noncomputable def B_worked (F : Nat → FM) (ok : Nat → Bool) (t : Str → Option D) : MS := sSeq (sIf (tV (eCmp .Eq (eLv 0) (eC (.str "else")))) (sRet (eIf (tV (eCmp .Is (eLv 1) (eC .non))) (eLv 2) (eLv 1))) (sSkip)) (sSeq (sIf (tOr (tV (eCmp .Is (eLv 1) (eC .non))) (tV (eCmp .Is (eLv 2) (eC .non)))) (sRet (eC .non)) (sSkip)) (sSeq (sSet 3 (eTab t (eLv 0))) (sRet (eCallV F ok 2 3 (lCons (eLv 1) (lCons (eLv 2) (lNil)))))))
noncomputable def B_number (tk lw : FM) : MS := sSeq (sSet 1 (eCall tk 2 0 [0, 1] [] (lCons (eLv 0) (lCons (eC (.int 7)) (lNil))) (lNil))) (sSeq (sIf (tV (eCmp .Eq (eLv 1) (eC (.int 0)))) (sRet (eC .non)) (sSkip)) (sSeq (sIf (tV (eCmp .Lt (eLv 1) (eC (.int 4)))) (sRet (eCall lw 2 0 [0, 1] [] (lCons (eBin .Sub (eCall tk 2 0 [0, 1] [] (lCons (eLv 0) (lCons (eC (.int 13)) (lNil))) (lNil)) (eC (.int 6))) (lCons (eBin .Add (eC (.int 1)) (eCall tk 2 0 [0, 1] [] (lCons (eLv 0) (lCons (eC (.int 6)) (lNil))) (lNil))) (lNil))) (lNil))) (sSkip)) (sSeq (sSet 2 (eSub (eNew (fLst (lCons (eC (.int 10)) (lCons (eC (.int 1000)) (lCons (eBin .Pow (eC (.int 10)) (eC (.int 6))) (lCons (eBin .Pow (eC (.int 10)) (eC (.int 11))) (lNil))))))) (eCall tk 2 0 [0, 1] [] (lCons (eLv 0) (lCons (eC (.int 4)) (lNil))) (lNil)))) (sRet (eCall lw 2 0 [0, 1] [] (lCons (eBin .Add (eBin .Sub (eCall tk 2 0 [0, 1] [] (lCons (eLv 0) (lCons (eBin .Sub (eBin .Mult (eC (.int 2)) (eLv 2)) (eC (.int 1))) (lNil))) (lNil)) (eLv 2)) (eC (.int 1))) (lCons (eBin .Add (eC (.int 1)) (eCall tk 2 0 [0, 1] [] (lCons (eLv 0) (lCons (eBin .Sub (eLv 2) (eC (.int 1))) (lNil))) (lNil))) (lNil))) (lNil))))))
section
variable {K k : Nat} {f : FM} {r s : Rat} {g : Gh}
theorem mm {a b : Int} (k0 : 0 < k) (hk : k ≤ 8000) (ha : Bd k a) (hb : Bd k b) : mulOk a b = true := mulOk_bd ha hb k0 k0 (by omega)
theorem plus_spec (hf : LowF K f) (k0 : 0 < k) (hK : 2 * k + 1 ≤ K) (k8 : K ≤ 8000) (hr : Sz k r) (hs : Sz k s) : mFun 2 2 (B_plus f) [dR r, dR s] g = .ok (dR (r + s)) g := by
  have m := fun {a b : Int} => mm (a := a) (b := b) k0 (by omega)
  have b1 : Bd K (r.num * s.den + s.num * r.den) := ((hr.1.mul hs.2).add (hs.1.mul hr.2)).mono (by omega)
  have e := hf _ _ g dd_ne b1 ((hr.2.mul hs.2).mono (by omega))
  rw [add_num] at e
  simp [dR, mFun, B_plus, permL, a20, a21, m hr.1 hs.2, m hs.1 hr.2, m hr.2 hs.2, endR] at e ⊢
  rw [e]; rfl
theorem minus_spec (hf : LowF K f) (k0 : 0 < k) (hK : 2 * k + 1 ≤ K) (k8 : K ≤ 8000) (hr : Sz k r) (hs : Sz k s) : mFun 2 2 (B_minus (mFun 2 2 (B_plus f))) [dR r, dR s] g = .ok (dR (r - s)) g := by
  have hn : dR (-s) = .tup [.int (-s.num), .int s.den] := rfl
  have hs' : Sz k (-s) := ⟨by show Bd k (-s.num); exact hs.1.neg, hs.2⟩
  have e := plus_spec (g := g) hf k0 hK k8 hr hs'
  rw [hn] at e
  rw [Rat.sub_eq_add_neg]
  simp only [dR] at e ⊢
  generalize mFun 2 2 (B_plus f) = p at *
  simp [mFun, B_minus, permL, a20, a21, lim2, endR, e]
theorem times_spec (hf : LowF K f) (k0 : 0 < k) (hK : 2 * k + 1 ≤ K) (k8 : K ≤ 8000) (hr : Sz k r) (hs : Sz k s) : mFun 2 2 (B_times f) [dR r, dR s] g = .ok (dR (r * s)) g := by
  have m := fun {a b : Int} => mm (a := a) (b := b) k0 (by omega)
  have e := hf _ _ g dd_ne ((hr.1.mul hs.1).mono (by omega)) ((hr.2.mul hs.2).mono (by omega))
  rw [mul_num] at e
  simp [dR, mFun, B_times, permL, a20, a21, m hr.1 hs.1, m hr.2 hs.2, endR] at e ⊢
  rw [e]; rfl
theorem over_spec (hf : LowF K f) (k0 : 0 < k) (hK : 2 * k + 1 ≤ K) (k8 : K ≤ 8000) (hr : Sz k r) (hs : Sz k s) : mFun 2 2 (B_over f) [dR r, dR s] g = .ok (if s = 0 then .non else dR (r / s)) g := by
  by_cases h : s = 0
  · subst h
    simp [dR, mFun, B_over, a20, endR]
  · have hn := num_ne h
    have m := fun {a b : Int} => mm (a := a) (b := b) k0 (by omega)
    have e := hf _ _ g (Int.mul_ne_zero (den_ne r) hn) ((hr.1.mul hs.2).mono (by omega)) ((hr.2.mul hs.1).mono (by omega))
    rw [div_num] at e
    rw [if_neg h]
    simp [dR, mFun, B_over, permL, a20, a21, hn, m hr.1 hs.2, m hr.2 hs.1, endR] at e ⊢
    rw [e]; rfl
end
/-- a number that may lack -/
def dN : Option Rat → D
  | none => .non
  | some r => dR r
def SzN (k : Nat) (x : Option Rat) : Prop := ∀ r, x = some r → Sz k r
theorem SzN.mono {k l : Nat} {x : Option Rat} (h : SzN k x) (hl : k ≤ l) : SzN l x := fun r e => (h r e).mono hl
theorem szN_none {k : Nat} : SzN k none := fun _ e => nomatch e
theorem szN_some {k : Nat} {r : Rat} (h : Sz k r) : SzN k (some r) := fun _ e => Option.some.inj e ▸ h
theorem dN_ok (x : Option Rat) : okD (dN x) 64 = true := by cases x <;> rfl
theorem dN_rpr {k : Nat} {x : Option Rat} (h : SzN k x) (h0 : 0 < k) (h1 : k ≤ 1900) : rprOk (dN x) = true := by
  refine rpr_ok k 4000 h0 (by omega) (dN_ok x) ?_ ?_ (by decide)
  · cases x with
    | none => rfl
    | some r =>
      have := h r rfl
      simp only [dN, dR, bdD, bdDs, Bool.and_true, Bool.and_eq_true, decide_eq_true_eq]
      exact ⟨this.1, this.2⟩
  · cases x with
    | none => exact (by decide : 5 ≤ 4000)
    | some r => simp only [dN, dR, wtD, wtDs]; omega
@[simp] theorem eqD_dR {r s : Rat} : eqD (dR r) (dR s) = decide (r = s) := by
  simp only [dR, eqD, eqDs, Bool.and_true]
  by_cases h : r = s
  · subst h; simp
  · rw [decide_eq_false h]
    cases hh : ((r.num == s.num) && ((r.den : Int) == (s.den : Int)))
    · rfl
    · simp only [Bool.and_eq_true, beq_iff_eq] at hh
      exact absurd (Rat.ext hh.1 (by omega)) h
theorem eqD_dN {x y : Option Rat} : eqD (dN x) (dN y) = decide (x = y) := by
  cases x <;> cases y
  · rfl
  · rfl
  · rfl
  · simp [dN]
theorem okE_ok {d e : D} (h1 : okD d 64 = true) (h2 : okD e 64 = true) : okE d e = true := by
  unfold okE; rw [h1, h2]; simp
@[simp] theorem eqN_ap {x y : Option Rat} {g : Gh} : cmpop .Eq (dN x) (dN y) g = .ok (.bl (decide (x = y))) g := by
  rw [eq_ap, okD_deref (dN_ok x), okD_deref (dN_ok y), okE_ok (dN_ok x) (dN_ok y), eqD_dN]; rfl
@[simp] theorem neN_ap {x y : Option Rat} {g : Gh} : cmpop .NotEq (dN x) (dN y) g = .ok (.bl (!decide (x = y))) g := by
  rw [ne_ap, okD_deref (dN_ok x), okD_deref (dN_ok y), okE_ok (dN_ok x) (dN_ok y), eqD_dN]; rfl
@[simp] theorem neNn_ap {x : Option Rat} {g : Gh} : cmpop .NotEq (dN x) .non g = .ok (.bl (!decide (x = none))) g := neN_ap (y := none)
@[simp] theorem eqNn_ap {x : Option Rat} {g : Gh} : cmpop .Eq (dN x) .non g = .ok (.bl (decide (x = none))) g := eqN_ap (y := none)
@[simp] theorem deref_dN {x : Option Rat} {g : Gh} : deref g (dN x) = dN x := okD_deref (dN_ok x)
@[simp] theorem deref_dR {r : Rat} {g : Gh} : deref g (dR r) = dR r := rfl
@[simp] theorem sub_dR0 {r : Rat} {g : Gh} : subD (dR r) (.int 0) g = .ok (.int r.num) g := rfl
@[simp] theorem sub_dR1 {r : Rat} {g : Gh} : subD (dR r) (.int 1) g = .ok (.int r.den) g := rfl
@[simp] theorem sub_dN0 {r : Rat} {g : Gh} : subD (dN (some r)) (.int 0) g = .ok (.int r.num) g := rfl
@[simp] theorem sub_dN1 {r : Rat} {g : Gh} : subD (dN (some r)) (.int 1) g = .ok (.int r.den) g := rfl
@[simp] theorem isNon_dN {x : Option Rat} : isNon (dN x) = decide (x = none) := by cases x <;> rfl
@[simp] theorem isNon_dR {r : Rat} : isNon (dR r) = false := rfl
/-- what worked answers -/
def wkR (w : Str) (x y : Option Rat) : Option Rat :=
  if w = "else" then (match x with | none => y | some r => some r)
  else match x, y with
    | some r, some s => if w = "plus" then some (r + s) else if w = "minus" then some (r - s) else if w = "times" then some (r * s) else if s = 0 then none else some (r / s)
    | _, _ => none
def WORDS : List Str := ["plus", "minus", "times", "over", "else"]
section
variable {x y : Option Rat} {r s : Rat}
theorem wk_else : wkR "else" x y = match x with | none => y | some r => some r := by unfold wkR; rw [if_pos rfl]
theorem wk_none_l {w : Str} (h : w ≠ "else") : wkR w none y = none := by unfold wkR; rw [if_neg h]
theorem wk_none_r {w : Str} (h : w ≠ "else") : wkR w x none = none := by unfold wkR; rw [if_neg h]; cases x <;> rfl
theorem wk_plus : wkR "plus" (some r) (some s) = some (r + s) := by unfold wkR; rw [if_neg (by decide +kernel)]; simp
theorem wk_minus : wkR "minus" (some r) (some s) = some (r - s) := by
  unfold wkR; rw [if_neg (by decide +kernel)]; simp only; rw [if_neg (by decide +kernel), if_pos trivial]
theorem wk_times : wkR "times" (some r) (some s) = some (r * s) := by
  unfold wkR; rw [if_neg (by decide +kernel)]; simp only; rw [if_neg (by decide +kernel), if_neg (by decide +kernel), if_pos trivial]
theorem wk_over : wkR "over" (some r) (some s) = if s = 0 then none else some (r / s) := by
  unfold wkR; rw [if_neg (by decide +kernel)]; simp only; rw [if_neg (by decide +kernel), if_neg (by decide +kernel), if_neg (by decide +kernel)]
theorem wk_sz {k : Nat} {w : Str} (hx : SzN k x) (hy : SzN k y) : SzN (2 * k + 1) (wkR w x y) := by
  unfold wkR
  split
  · cases x
    · exact hy.mono (by omega)
    · exact hx.mono (by omega)
  · cases x with
    | none => exact szN_none
    | some r => cases y with
      | none => exact szN_none
      | some s =>
        have hr := hx r rfl
        have hs := hy s rfl
        simp only
        split
        · exact szN_some (hr.add hs)
        split
        · exact szN_some (hr.sub hs)
        split
        · exact szN_some (hr.mul hs)
        split
        · exact szN_none
        · rename_i h; exact szN_some (hr.quot hs h)
end
/-- the four works as they stand in a law's table -/
structure Works (K : Nat) (F : Nat → FM) (ok : Nat → Bool) (t : Str → Option D) (ip im it io : Nat) : Prop where
  tp : t "plus" = some (.fn ip)
  tm : t "minus" = some (.fn im)
  tt : t "times" = some (.fn it)
  to : t "over" = some (.fn io)
  kp : ok ip = true
  km : ok im = true
  kt : ok it = true
  ko : ok io = true
  fp : ∃ f, LowF K f ∧ F ip = mFun 2 2 (B_plus f)
  fm : ∃ f, LowF K f ∧ F im = mFun 2 2 (B_minus (mFun 2 2 (B_plus f)))
  ft : ∃ f, LowF K f ∧ F it = mFun 2 2 (B_times f)
  fo : ∃ f, LowF K f ∧ F io = mFun 2 2 (B_over f)
theorem worked_spec {K k : Nat} {F : Nat → FM} {ok : Nat → Bool} {t : Str → Option D} {ip im it io : Nat} (W : Works K F ok t ip im it io) (k0 : 0 < k) (hK : 2 * k + 1 ≤ K) (k8 : K ≤ 8000) {w : Str} (hw : w ∈ WORDS) {x y : Option Rat} (hx : SzN k x) (hy : SzN k y) {g : Gh} :
    mFun 3 4 (B_worked F ok t) [.str w, dN x, dN y] g = .ok (dN (wkR w x y)) g := by
  by_cases he : w = "else"
  · subst he
    rw [wk_else]
    cases x with
    | none => simp [dN, mFun, B_worked, endR]
    | some r => simp [dN, dR, mFun, B_worked, endR]
  have hne : ∀ {g : Gh}, cmpop .Eq (.str w) (.str "else") g = .ok (.bl false) g := fun {g} => eqS_no (by simpa using he)
  cases x with
  | none => rw [wk_none_l he]; simp [dN, mFun, B_worked, endR, hne]
  | some r => cases y with
    | none => rw [wk_none_r he]; simp [dN, dR, mFun, B_worked, endR, hne]
    | some s =>
      have hr := hx r rfl
      have hs := hy s rfl
      simp only [dN]
      have key : ∀ (i : Nat) (d : D), t w = some (.fn i) → ok i = true → F i [dR r, dR s] g = .ok d g → mFun 3 4 (B_worked F ok t) [.str w, dR r, dR s] g = .ok d g := fun i d h1 h2 h3 => by
        simp only [dR] at h3 ⊢
        simp [mFun, B_worked, endR, hne, h1, h2, h3]
      simp only [WORDS, List.mem_cons, List.not_mem_nil, or_false] at hw
      rcases hw with rfl | rfl | rfl | rfl | rfl
      · obtain ⟨f, hf, e⟩ := W.fp
        rw [wk_plus]
        exact key _ _ W.tp W.kp (by rw [e]; exact plus_spec hf k0 hK k8 hr hs)
      · obtain ⟨f, hf, e⟩ := W.fm
        rw [wk_minus]
        exact key _ _ W.tm W.km (by rw [e]; exact minus_spec hf k0 hK k8 hr hs)
      · obtain ⟨f, hf, e⟩ := W.ft
        rw [wk_times]
        exact key _ _ W.tt W.kt (by rw [e]; exact times_spec hf k0 hK k8 hr hs)
      · obtain ⟨f, hf, e⟩ := W.fo
        rw [wk_over]
        refine key _ _ W.to W.ko ?_
        rw [e, over_spec hf k0 hK k8 hr hs]
        split <;> rfl
      · exact absurd rfl he
/-- a draw, as it is told -/
def TakeF (f : FM) : Prop := ∀ (n : Nat) (g : Gh) (m : Int), HasBag n g → 0 < m → Bd 64 m → ∃ r g', (0 ≤ r ∧ r < m) ∧ (HasBag n g' ∧ g'.length = g.length ∧ ∀ j, j ≠ n → g'[j]? = g[j]?) ∧ f [.loc n, .int m] g = .ok (.int r) g'
theorem takeF : TakeF (mFun 2 3 B_take) := fun n g m hb h0 h1 => take_spec hb h0 h1
theorem number_spec {tk lw : FM} (ht : TakeF tk) {K : Nat} (hl : LowF K lw) (hK : 40 ≤ K) {n : Nat} {g : Gh} (hb : HasBag n g) : ∃ x g', SzN 40 x ∧ HasBag n g' ∧ mFun 1 3 (B_number tk lw) [.loc n] g = .ok (dN x) g' := by
  obtain ⟨r1, g1, hr1, ⟨hb1, _⟩, e1⟩ := ht n g 7 hb (by decide) (by decide)
  have p6 : powOk 10 6 = true := powOk_bd (by decide) (by decide) (by decide)
  have p11 : powOk 10 11 = true := powOk_bd (by decide) (by decide) (by decide)
  by_cases h0 : r1 = 0
  · refine ⟨none, g1, szN_none, hb1, ?_⟩
    simp [dN, mFun, B_number, permL, e1, h0, endR]
  by_cases h4 : r1 < 4
  · obtain ⟨r2, g2, hr2, ⟨hb2, _⟩, e2⟩ := ht n g1 13 hb1 (by decide) (by decide)
    obtain ⟨r3, g3, hr3, ⟨hb3, _⟩, e3⟩ := ht n g2 6 hb2 (by decide) (by decide)
    have ba : Bd 40 (r2 - 6) := bd_of (by omega)
    have bb : Bd 40 (1 + r3) := bd_of (by omega)
    have e4 := hl (r2 - 6) (1 + r3) g3 (by omega) (ba.mono hK) (bb.mono hK)
    refine ⟨some (Rat.divInt (r2 - 6) (1 + r3)), g3, szN_some (.div (by omega) ba bb), hb3, ?_⟩
    simp [dN, mFun, B_number, permL, e1, h0, h4, e2, e3, e4, endR]
  obtain ⟨r2, g2, hr2, ⟨hb2, _⟩, e2⟩ := ht n g1 4 hb1 (by decide) (by decide)
  obtain ⟨far, hf0, hf1, hfar⟩ : ∃ far : Int, 10 ≤ far ∧ far ≤ 100000000000 ∧ atI [D.int 10, .int 1000, .int 1000000, .int 100000000000] r2 = some (.int far) := by
    have : r2 = 0 ∨ r2 = 1 ∨ r2 = 2 ∨ r2 = 3 := by omega
    rcases this with rfl | rfl | rfl | rfl <;> exact ⟨_, by decide, by decide, rfl⟩
  obtain ⟨r3, g3, hr3, ⟨hb3, _⟩, e3⟩ := ht n g2 (2 * far - 1) hb2 (by omega) (bd_of (by omega))
  obtain ⟨r4, g4, hr4, ⟨hb4, _⟩, e4⟩ := ht n g3 (far - 1) hb3 (by omega) (bd_of (by omega))
  have ba : Bd 40 (r3 - far + 1) := bd_of (by omega)
  have bb : Bd 40 (1 + r4) := bd_of (by omega)
  have e5 := hl (r3 - far + 1) (1 + r4) g4 (by omega) (ba.mono hK) (bb.mono hK)
  have m2 : mulOk 2 far = true := mulOk_left (by decide)
  refine ⟨some (Rat.divInt (r3 - far + 1) (1 + r4)), g4, szN_some (.div (by omega) ba bb), hb4, ?_⟩
  simp [dN, mFun, B_number, permL, e1, h0, h4, e2, lim4, p6, p11, hfar, e3, e4, e5, m2, endR]
end GL
/-! GL part 20: helpers for loops and comprehensions that check. -/
namespace GL
open PySem L2
theorem set_same {env : Env'} {i : Nat} (hi : i < env.length) : ∃ s, env = env.set i s := ⟨env[i], by simp⟩
/-- a loop whose turns check and change nothing -/
theorem forL_chk {b : MS} {i : Nat} {g : Gh} : ∀ {ds : List D} {env : Env'}, i < env.length → (∀ d ∈ ds, b (env.set i (.val d)) g = .nx (env.set i (.val d)) g) → ∃ s, forL none (gNm i) b ds env g = .nx (env.set i s) g
  | [], env, hi, _ => by
    obtain ⟨s, hs⟩ := set_same hi
    refine ⟨s, ?_⟩
    rw [forL_nil, ← hs]
  | d :: ds, env, hi, h => by
    have e := h d List.mem_cons_self
    obtain ⟨s, e2⟩ := forL_chk (b := b) (i := i) (g := g) (ds := ds) (env := env.set i (.val d)) (by simpa using hi) (fun d' hd => by
      rw [List.set_set]; exact h d' (List.mem_cons_of_mem _ hd))
    refine ⟨s, ?_⟩
    rw [forL_cons]
    simp only [gNm_ap, e]
    rw [e2, List.set_set]
theorem compL_true {e : ME} {i : Nat} {env : Env'} {g : Gh} {ds : List D} (h : ∀ d ∈ ds, e (env.set i (.val d)) g = .ok (.bl true) g) : compL none (gNm i) tTrue e ds env g = .ok (ds.map fun _ => .bl true) g := by
  have := compL_map (tg := gNm i) (t := tTrue) (e := e) (env := env) (g := g) (fun _ => true) (fun _ => .bl true) ds (fun d hd => ⟨_, rfl, rfl, fun _ => h d hd⟩)
  rw [this]
  have : ds.filter (fun _ => true) = ds := by simp
  rw [this]
/-- all([check for x in it]) -/
theorem all_comp {it : MI} {i : Nat} {e : ME} {env : Env'} {g : Gh} {ds : List D} (hit : it env g = .ok (ds, none) g) (hl : ds.length ≤ LIM) (h : ∀ d ∈ ds, e ((blkE env [i]).set i (.val d)) g = .ok (.bl true) g) :
    eBi oAll (lCons (eNew (lComp it (gNm i) tTrue e [i])) lNil) env g = .ok (.bl true) g := by
  simp only [eBi_ap, lCons_ap, eNew_ap, lComp_ap, lNil_ap, hit, R.bind_ok, compL_true h]
  have hl' : (ds.map fun _ => D.bl true).length ≤ LIM := by simpa using hl
  simp only [hl', if_true, R.bind_ok]
  exact all_true (by simp)
/-- if not all(..): return False, passed -/
theorem chk_all {it : MI} {i : Nat} {e : ME} {env : Env'} {g : Gh} {ds : List D} (hit : it env g = .ok (ds, none) g) (hl : ds.length ≤ LIM) (h : ∀ d ∈ ds, e ((blkE env [i]).set i (.val d)) g = .ok (.bl true) g) :
    sIf (tNot (tV (eBi oAll (lCons (eNew (lComp it (gNm i) tTrue e [i])) lNil)))) (sRet (eC (.bl false))) sSkip env g = .nx env g := by
  have := all_comp hit hl h
  simp only [sIf_ap, tNot_ap, tV_ap, this, R.bind_ok, asB_bl]
  rfl
/-- what a law's outer loop leaves: the script stands -/
def Fst (x : Sl) (n : Nat) (env : Env') : Prop := ∃ l, env = x :: l ∧ l.length = n
/-- the draws of the numbers -/
theorem comp_num {it : MI} {i : Nat} {e : ME} {env : Env'} {g : Gh} {n : Nat} {ds : List D} (hb : HasBag n g) (hit : it env g = .ok (ds, none) g) (hl : ds.length ≤ LIM) (I : Option Rat → Prop)
    (h : ∀ d ∈ ds, ∀ g, HasBag n g → ∃ x g', I x ∧ HasBag n g' ∧ e ((blkE env [i]).set i (.val d)) g = .ok (dN x) g') :
    ∃ (xs : List (Option Rat)) (g' : Gh), xs.length = ds.length ∧ (∀ x ∈ xs, I x) ∧ HasBag n g' ∧ eNew (lComp it (gNm i) tTrue e [i]) env g = .ok (.lst (xs.map dN)) g' := by
  have key : ∀ ds : List D, (∀ d ∈ ds, ∀ g, HasBag n g → ∃ x g', I x ∧ HasBag n g' ∧ e ((blkE env [i]).set i (.val d)) g = .ok (dN x) g') → ∀ g, HasBag n g → ∃ (xs : List (Option Rat)) (g' : Gh), xs.length = ds.length ∧ (∀ x ∈ xs, I x) ∧ HasBag n g' ∧ compL none (gNm i) tTrue e ds (blkE env [i]) g = .ok (xs.map dN) g' := fun ds => by
    induction ds with
    | nil => exact fun _ g hg => ⟨[], g, rfl, (fun _ q => nomatch q), hg, compL_nil⟩
    | cons d ds ih =>
      intro h g hg
      obtain ⟨x, g1, hx, hg1, e1⟩ := h d List.mem_cons_self g hg
      obtain ⟨xs, g2, l, hxs, hg2, e2⟩ := ih (fun d hd => h d (List.mem_cons_of_mem _ hd)) g1 hg1
      refine ⟨x :: xs, g2, by simp [l], ?_, hg2, ?_⟩
      · intro z hz
        rcases List.mem_cons.mp hz with rfl | hz
        · exact hx
        · exact hxs z hz
      · rw [compL_cons]
        simp only [gNm_ap, tTrue_ap, if_true, e1, e2, List.map_cons]
  obtain ⟨xs, g', l, hxs, hg', e'⟩ := key ds h g hb
  refine ⟨xs, g', l, hxs, hg', ?_⟩
  have hl' : (xs.map dN).length ≤ LIM := by rw [List.length_map, l]; exact hl
  simp only [eNew_ap, lComp_ap, hit, R.bind_ok, e', hl', if_true]
/-- draws of whatever kind -/
theorem comp_ex {α : Type} (enc : α → D) {it : MI} {i : Nat} {e : ME} {env : Env'} {g : Gh} {n : Nat} {ds : List D} (hb : HasBag n g) (hit : it env g = .ok (ds, none) g) (hl : ds.length ≤ LIM) (I : α → Prop)
    (h : ∀ d ∈ ds, ∀ g, HasBag n g → ∃ x g', I x ∧ HasBag n g' ∧ e ((blkE env [i]).set i (.val d)) g = .ok (enc x) g') :
    ∃ (xs : List α) (g' : Gh), xs.length = ds.length ∧ (∀ x ∈ xs, I x) ∧ HasBag n g' ∧ eNew (lComp it (gNm i) tTrue e [i]) env g = .ok (.lst (xs.map enc)) g' := by
  have key : ∀ ds : List D, (∀ d ∈ ds, ∀ g, HasBag n g → ∃ x g', I x ∧ HasBag n g' ∧ e ((blkE env [i]).set i (.val d)) g = .ok (enc x) g') → ∀ g, HasBag n g → ∃ (xs : List α) (g' : Gh), xs.length = ds.length ∧ (∀ x ∈ xs, I x) ∧ HasBag n g' ∧ compL none (gNm i) tTrue e ds (blkE env [i]) g = .ok (xs.map enc) g' := fun ds => by
    induction ds with
    | nil => exact fun _ g hg => ⟨[], g, rfl, (fun _ q => nomatch q), hg, compL_nil⟩
    | cons d ds ih =>
      intro h g hg
      obtain ⟨x, g1, hx, hg1, e1⟩ := h d List.mem_cons_self g hg
      obtain ⟨xs, g2, l, hxs, hg2, e2⟩ := ih (fun d hd => h d (List.mem_cons_of_mem _ hd)) g1 hg1
      refine ⟨x :: xs, g2, by simp [l], ?_, hg2, ?_⟩
      · intro z hz
        rcases List.mem_cons.mp hz with rfl | hz
        · exact hx
        · exact hxs z hz
      · rw [compL_cons]
        simp only [gNm_ap, tTrue_ap, if_true, e1, e2, List.map_cons]
  obtain ⟨xs, g', l, hxs, hg', e'⟩ := key ds h g hb
  refine ⟨xs, g', l, hxs, hg', ?_⟩
  have hl' : (xs.map enc).length ≤ LIM := by rw [List.length_map, l]; exact hl
  simp only [eNew_ap, lComp_ap, hit, R.bind_ok, e', hl', if_true]
end GL
/-! GL part 21: tables of rows and trees. -/
namespace GL
open PySem L2
noncomputable def P_b_held : MS := sSeq (sPar 2 3 (lCons (eBin .Mult (eSub (eLv 0) (eC (.int 0))) (eSub (eLv 1) (eC (.int 1)))) (lCons (eBin .Mult (eSub (eLv 1) (eC (.int 0))) (eSub (eLv 0) (eC (.int 1)))) (lNil)))) (sRet (eIf (tV (eCmp .Lt (eLv 2) (eLv 3))) (eNeg (eC (.int 1))) (eBi oInt (lCons (eCmp .Gt (eLv 2) (eLv 3)) (lNil)))))
noncomputable def P_b_is_yes (c_held : FM) : MS := sRet (eAnd (eCmp .IsNot (eSub (eLv 0) (eLv 1)) (eC .non)) (eCmp .LtE (eCall c_held 2 0 [0, 1] [] (lCons (eSub (eLv 0) (eLv 1)) (lCons (eLv 2) (lNil))) (lNil)) (eC (.int 0))))
noncomputable def P_ce_rows_parted_1 : ME := eLv 4
noncomputable def P_ct_rows_parted_2 (c_is_yes : FM) : MT := tV (eCall c_is_yes 3 0 [0, 1, 2] [] (lCons (eSub (eLv 4) (eC (.int 0))) (lCons (eLv 1) (lCons (eLv 2) (lNil)))) (lNil))
noncomputable def P_ce_rows_parted_3 : ME := eLv 4
noncomputable def P_ct_rows_parted_4 (c_is_yes : FM) : MT := tNot (tV (eCall c_is_yes 3 0 [0, 1, 2] [] (lCons (eSub (eLv 4) (eC (.int 0))) (lCons (eLv 1) (lCons (eLv 2) (lNil)))) (lNil)))
noncomputable def P_b_rows_parted (c_is_yes : FM) : MS := sSeq (sSet 3 (eNew (lComp (iV (eLv 0)) (gNm 4) (P_ct_rows_parted_2 c_is_yes) (P_ce_rows_parted_1) [4]))) (sRet (eTup (lCons (eLv 3) (lCons (eNew (lComp (iV (eLv 0)) (gNm 4) (P_ct_rows_parted_4 c_is_yes) (P_ce_rows_parted_3) [4])) (lNil)))))
noncomputable def P_ce_labels_of_1 : ME := eLv 2
noncomputable def P_b_labels_of : MS := sRet (eNew (lComp (iV (eLv 0)) (gTp 2 (gsCons (gNm 1) (gsCons (gNm 2) (gsNil)))) (tTrue) (P_ce_labels_of_1) [1, 2]))
noncomputable def P_ce_spread_of_1 : ME := eBin .Mult (eLv 2) (eLv 2)
noncomputable def P_b_spread_of (c_lowest : FM) : MS := sSeq (sIf (tV (eCmp .Eq (eBi oLen (lCons (eLv 0) (lNil))) (eC (.int 0)))) (sRet (eC (.tup [.int 0, .int 1]))) (sSkip)) (sSeq (sSet 1 (eBi oSum (lCons (eLv 0) (lNil)))) (sRet (eCall c_lowest 2 0 [0, 1] [] (lCons (eBin .Sub (eBin .Mult (eBi oLen (lCons (eLv 0) (lNil))) (eBi oSum (lCons (eNew (lComp (iV (eLv 0)) (gNm 2) (tTrue) (P_ce_spread_of_1) [2])) (lNil)))) (eBin .Mult (eLv 1) (eLv 1))) (lCons (eBi oLen (lCons (eLv 0) (lNil))) (lNil))) (lNil))))
noncomputable def P_b_leaf_of (c_lowest : FM) (c_labels_of : FM) : MS := sSeq (sSet 1 (eCall c_labels_of 1 0 [0] [] (lCons (eLv 0) (lNil)) (lNil))) (sRet (eTup (lCons (eC (.str "leaf")) (lCons (eCall c_lowest 2 0 [0, 1] [] (lCons (eBi oSum (lCons (eLv 1) (lNil))) (lCons (eBi oLen (lCons (eLv 1) (lNil))) (lNil))) (lNil)) (lNil)))))
noncomputable def P_ce_rising_numbers_1 : ME := eLv 3
noncomputable def P_ct_rising_numbers_2 (c_held : FM) : MT := tV (eCmp .Lt (eCall c_held 2 0 [0, 1] [] (lCons (eLv 3) (lCons (eLv 2) (lNil))) (lNil)) (eC (.int 0)))
noncomputable def P_lp_rising_numbers_3 (c_held : FM) : MS := sIf (tAnd (tV (eCmp .IsNot (eLv 2) (eC .non))) (tBor 1 (tV (eCmp .NotIn (eLv 2) (eLv 1))))) (sOwnIns 1 (eBor 1 (eBi oLen (lCons (eNew (lComp (iV (eLv 1)) (gNm 3) (P_ct_rising_numbers_2 c_held) (P_ce_rising_numbers_1) [3])) (lNil)))) (eLv 2)) (sSkip)
noncomputable def P_b_rising_numbers (c_held : FM) : MS := sSeq (sSetOwn 1 (fLst (lNil))) (sSeq (sFor (iV (eLv 0)) (gNm 2) (P_lp_rising_numbers_3 c_held)) (sFreeze 1 (sRet (eLv 1))))
/-! ### tools -/
theorem atI_nat {α : Type} {l : List α} {i : Nat} (h : i < l.length) : atI l (i : Int) = some l[i] := by
  unfold atI; rw [ixN_nat h]; simp [h]
theorem compL_mapT {α : Type} {tg : MG} {t : MT} {el : ME} {env : Env'} {g : Gh} (e : α → D) (p : α → Bool) (f : α → D) : ∀ (xs : List α), (∀ x ∈ xs, ∃ env1, tg (e x) env = some env1 ∧ t env1 g = .ok (p x) g ∧ (p x = true → el env1 g = .ok (f x) g)) →
    compL none tg t el (xs.map e) env g = .ok ((xs.filter p).map f) g
  | [], _ => compL_nil
  | x :: xs, h => by
    obtain ⟨env1, e1, e2, e3⟩ := h x List.mem_cons_self
    have ih := compL_mapT e p f xs fun d hd => h d (List.mem_cons_of_mem _ hd)
    rw [List.map_cons, compL_cons, e1]
    simp only [e2]
    cases hp : p x with
    | false => simp only [Bool.false_eq_true, if_false, List.filter_cons, hp]; exact ih
    | true => simp only [if_true, e3 hp, ih, List.filter_cons, hp, List.map_cons]
/-- a loop that folds -/
theorem forL_fold {α S : Type} {tg : MG} {b : MS} {g : Gh} (e : α → D) (f : S → α → S) (Rl : S → Env' → Prop) : ∀ (xs : List α) (s : S) (env : Env'), (∀ x ∈ xs, ∀ s env, Rl s env → ∃ env1, tg (e x) env = some env1 ∧ ∃ env2, b env1 g = .nx env2 g ∧ Rl (f s x) env2) → Rl s env →
    ∃ env', forL none tg b (xs.map e) env g = .nx env' g ∧ Rl (xs.foldl f s) env'
  | [], s, env, _, h => ⟨env, forL_nil, h⟩
  | x :: xs, s, env, hb, h => by
    obtain ⟨env1, e1, env2, e2, h2⟩ := hb x List.mem_cons_self s env h
    obtain ⟨env', e3, h3⟩ := forL_fold e f Rl xs (f s x) env2 (fun d hd => hb d (List.mem_cons_of_mem _ hd)) h2
    refine ⟨env', ?_, h3⟩
    rw [List.map_cons, forL_cons, e1]
    simp only [e2]
    exact e3
@[simp] theorem oSum_map (ls : List Int) (g : Gh) : oSum [.lst (ls.map D.int)] g = .ok (.int ls.sum) g := by
  simp [oSum, asInts_map]
theorem sum_bd {B : Nat} : ∀ {ls : List Int}, (∀ l ∈ ls, l.natAbs ≤ B) → ls.sum.natAbs ≤ ls.length * B
  | [], _ => by simp
  | l :: ls, h => by
    have h1 := h l List.mem_cons_self
    have h2 := sum_bd fun x hx => h x (List.mem_cons_of_mem _ hx)
    simp only [List.sum_cons, List.length_cons, Nat.add_mul, Nat.one_mul]
    omega
/-! ### ratios held together -/
def heldR (r s : Rat) : Int := if r < s then -1 else if s < r then 1 else 0
def HeldF (k : Nat) (f : FM) : Prop := ∀ (r s : Rat) (g : Gh), Sz k r → Sz k s → f [dR r, dR s] g = .ok (.int (heldR r s)) g
theorem held_spec {k : Nat} (k0 : 0 < k) (k8 : k ≤ 8000) : HeldF k (mFun 2 4 P_b_held) := fun r s g hr hs => by
  have m1 := mm k0 k8 hr.1 hs.2
  have m2 := mm k0 k8 hs.1 hr.2
  have e1 : (r.num * (s.den : Int) < s.num * (r.den : Int)) ↔ r < s := (Rat.lt_iff r s).symm
  have e2 : (s.num * (r.den : Int) < r.num * (s.den : Int)) ↔ s < r := (Rat.lt_iff s r).symm
  by_cases h1 : r < s
  · have h1' := e1.mpr h1
    simp [mFun, P_b_held, m1, m2, h1', endR, heldR, h1]
  · have h1' : ¬ (r.num * (s.den : Int) < s.num * (r.den : Int)) := fun q => h1 (e1.mp q)
    by_cases h2 : s < r
    · have h2' := e2.mpr h2
      simp [mFun, P_b_held, m1, m2, h1', h2', endR, heldR, h1, h2]
    · have h2' : ¬ (s.num * (r.den : Int) < r.num * (s.den : Int)) := fun q => h2 (e2.mp q)
      simp [mFun, P_b_held, m1, m2, h1', h2', endR, heldR, h1, h2]
theorem held_le {r s : Rat} : decide (heldR r s ≤ 0) = decide (r ≤ s) := by
  unfold heldR
  by_cases h1 : r < s
  · have : r ≤ s := Rat.le_of_lt h1
    simp [h1, this]
  · by_cases h2 : s < r
    · have : ¬ r ≤ s := Rat.not_le.mpr h2
      simp [h1, h2, this]
    · have : r ≤ s := Rat.not_lt.mp h2
      simp [h1, h2, this]
theorem held_lt {r s : Rat} : decide (heldR r s < 0) = decide (r < s) := by
  unfold heldR
  by_cases h1 : r < s
  · simp [h1]
  · by_cases h2 : s < r <;> simp [h1, h2]
theorem held_gt {r s : Rat} : decide (0 < heldR r s) = decide (s < r) := by
  unfold heldR
  by_cases h1 : r < s
  · have : ¬ s < r := fun h => by grind
    simp [h1, this]
  · by_cases h2 : s < r <;> simp [h1, h2]
/-! ### rows -/
abbrev Row := List (Option Rat) × Int
def dNs (xs : List (Option Rat)) : D := .tup (xs.map dN)
def dRow (r : Row) : D := .tup [dNs r.1, .int r.2]
def isYes (c : Nat) (cut : Rat) (xs : List (Option Rat)) : Bool := match xs[c]? with
  | some (some r) => decide (r ≤ cut)
  | _ => false
/-- numbers of less than k bits, n of them -/
def NsOk (k n : Nat) (xs : List (Option Rat)) : Prop := xs.length = n ∧ ∀ x ∈ xs, SzN k x
def YesF (k : Nat) (f : FM) : Prop := ∀ (xs : List (Option Rat)) (n c : Nat) (cut : Rat) (g : Gh), NsOk k n xs → c < n → Sz k cut → f [dNs xs, .int c, dR cut] g = .ok (.bl (isYes c cut xs)) g
theorem yes_spec {k : Nat} {h : FM} (hh : HeldF k h) : YesF k (mFun 3 3 (P_b_is_yes h)) := fun xs n c cut g hx hc hs => by
  have hc' : c < xs.length := by rw [hx.1]; exact hc
  have e1 : atI (xs.map dN) (c : Int) = some (dN xs[c]) := by rw [atI_nat (by simpa using hc')]; simp
  have e2 : xs[c]? = some xs[c] := by simp [hc']
  have hm := hx.2 xs[c] (List.getElem_mem hc')
  cases hv : xs[c] with
  | none =>
    rw [hv] at e1 e2
    simp [mFun, P_b_is_yes, dNs, e1, isYes, e2, endR]
  | some r =>
    rw [hv] at e1 e2 hm
    have e3 := hh r cut g (hm r rfl) hs
    have e4 := held_le (r := r) (s := cut)
    simp only [dN] at e1
    simp [mFun, P_b_is_yes, dNs, e1, isYes, e2, permL, e3, e4, endR]
def RowsOk (k n m : Nat) (rows : List Row) : Prop := rows.length ≤ m ∧ ∀ r ∈ rows, NsOk k n r.1 ∧ Bd 20 r.2
def dRows (rows : List Row) : D := .lst (rows.map dRow)
def PartF (k m : Nat) (f : FM) : Prop := ∀ (rows : List Row) (n c : Nat) (cut : Rat) (g : Gh), RowsOk k n m rows → c < n → Sz k cut →
  f [dRows rows, .int c, dR cut] g = .ok (.tup [dRows (rows.filter fun r => isYes c cut r.1), dRows (rows.filter fun r => !isYes c cut r.1)]) g
theorem part_spec {k m : Nat} {y : FM} (hy : YesF k y) (hm : m ≤ LIM) : PartF k m (mFun 3 5 (P_b_rows_parted y)) := fun rows n c cut g hr hc hs => by
  have a0 : ∀ r : Row, atI [dNs r.1, D.int r.2] 0 = some (dNs r.1) := fun _ => rfl
  have l1 : (rows.filter fun r => isYes c cut r.1).length ≤ LIM := Nat.le_trans (List.length_filter_le _ _) (Nat.le_trans hr.1 hm)
  have l2 : (rows.filter fun r => !isYes c cut r.1).length ≤ LIM := Nat.le_trans (List.length_filter_le _ _) (Nat.le_trans hr.1 hm)
  have e1 := compL_mapT (tg := gNm 4) (t := P_ct_rows_parted_2 y) (el := P_ce_rows_parted_1) (env := [.val (dRows rows), .val (.int c), .val (dR cut), .un, .un]) (g := g) dRow (fun r => isYes c cut r.1) dRow rows (fun r hr' => by
    refine ⟨_, rfl, ?_, fun _ => ?_⟩
    · have e := hy r.1 n c cut g (hr.2 r hr').1 hc hs
      simp [P_ct_rows_parted_2, permL, dRow, a0, e]
    · simp [P_ce_rows_parted_1])
  have e2 := compL_mapT (tg := gNm 4) (t := P_ct_rows_parted_4 y) (el := P_ce_rows_parted_3) (env := [.val (dRows rows), .val (.int c), .val (dR cut), .val (dRows (rows.filter fun r => isYes c cut r.1)), .un]) (g := g) dRow (fun r => !isYes c cut r.1) dRow rows (fun r hr' => by
    refine ⟨_, rfl, ?_, fun _ => ?_⟩
    · have e := hy r.1 n c cut g (hr.2 r hr').1 hc hs
      simp [P_ct_rows_parted_4, permL, dRow, a0, e]
    · simp [P_ce_rows_parted_3])
  simp only [dRows] at e1 e2
  simp [mFun, P_b_rows_parted, dRows, blkE, wipeE, hideS, e1, e2, l1, l2, lim2, endR]
def LabF (f : FM) : Prop := ∀ (rows : List Row) (g : Gh), rows.length ≤ LIM → f [dRows rows] g = .ok (.lst ((rows.map (·.2)).map D.int)) g
theorem lab_spec : LabF (mFun 1 3 P_b_labels_of) := fun rows g hl => by
  have e1 := compL_mapT (tg := gTp 2 (gsCons (gNm 1) (gsCons (gNm 2) gsNil))) (t := tTrue) (el := P_ce_labels_of_1) (env := [.val (dRows rows), .un, .un]) (g := g) dRow (fun _ => true) (fun r => D.int r.2) rows (fun r _ => by
    refine ⟨[.val (dRows rows), .val (dNs r.1), .val (.int r.2)], by simp [dRow], rfl, fun _ => ?_⟩
    simp [P_ce_labels_of_1])
  have ef : rows.filter (fun _ => true) = rows := by simp
  rw [ef] at e1
  simp only [dRows] at e1
  have hl' : (rows.map fun r => D.int r.2).length ≤ LIM := by simpa using hl
  simp [mFun, P_b_labels_of, dRows, blkE, wipeE, hideS, e1, hl, endR]
def spreadR (ls : List Int) : Rat := if ls = [] then 0 else Rat.divInt (ls.length * (ls.map fun l => l * l).sum - ls.sum * ls.sum) ls.length
def LsOk (ls : List Int) : Prop := ls.length ≤ 1000 ∧ ∀ l ∈ ls, Bd 20 l
theorem LsOk.sum {ls : List Int} (h : LsOk ls) : Bd 30 ls.sum := by
  have := sum_bd (B := 2 ^ 20 - 1) fun l hl => by have := h.2 l hl; show l.natAbs ≤ 2 ^ 20 - 1; have h : l.natAbs < 2 ^ 20 := this; omega
  have h2 : ls.length * (2 ^ 20 - 1) ≤ 1000 * (2 ^ 20 - 1) := Nat.mul_le_mul_right _ h.1
  show ls.sum.natAbs < 2 ^ 30
  omega
theorem LsOk.sq {ls : List Int} (h : LsOk ls) : Bd 50 (ls.map fun l => l * l).sum := by
  have := sum_bd (B := 2 ^ 40 - 1) (ls := ls.map fun l => l * l) fun l hl => by
    obtain ⟨x, hx, rfl⟩ := List.mem_map.mp hl
    have : (x * x).natAbs < 2 ^ 40 := (h.2 x hx).mul (h.2 x hx)
    omega
  rw [List.length_map] at this
  have h2 : ls.length * (2 ^ 40 - 1) ≤ 1000 * (2 ^ 40 - 1) := Nat.mul_le_mul_right _ h.1
  show Int.natAbs _ < 2 ^ 50
  omega
theorem LsOk.len {ls : List Int} (h : LsOk ls) : Bd 20 (ls.length : Int) := by
  show Int.natAbs _ < 2 ^ 20
  have := h.1
  omega
theorem LsOk.top {ls : List Int} (h : LsOk ls) : Bd 71 (ls.length * (ls.map fun l => l * l).sum - ls.sum * ls.sum) := by
  rw [Int.sub_eq_add_neg]
  exact (h.len.mul h.sq).add ((h.sum.mul h.sum).neg.mono (by decide))
theorem spread_sz {ls : List Int} (h : LsOk ls) : Sz 71 (spreadR ls) := by
  unfold spreadR
  split
  · exact ⟨(by decide : Bd 2 0).mono (by decide), (by decide : Bd 2 1).mono (by decide)⟩
  · rename_i hne
    have : (ls.length : Int) ≠ 0 := by
      have : ls.length ≠ 0 := fun e => hne (List.length_eq_zero_iff.mp e)
      omega
    exact .div this h.top (h.len.mono (by decide))
def SpreadF (f : FM) : Prop := ∀ (ls : List Int) (g : Gh), LsOk ls → f [.lst (ls.map D.int)] g = .ok (dR (spreadR ls)) g
theorem spread_spec {K : Nat} {lw : FM} (hl : LowF K lw) (hK : 71 ≤ K) : SpreadF (mFun 1 3 (P_b_spread_of lw)) := fun ls g h => by
  by_cases h0 : ls = []
  · subst h0
    simp [mFun, P_b_spread_of, spreadR, endR]; rfl
  · have hn : (ls.length : Int) ≠ 0 := by
      have : ls.length ≠ 0 := fun e => h0 (List.length_eq_zero_iff.mp e)
      omega
    have e1 := compL_mapT (tg := gNm 2) (t := tTrue) (el := P_ce_spread_of_1) (env := [.val (.lst (ls.map D.int)), .val (.int ls.sum), .un]) (g := g) D.int (fun _ => true) (fun l => D.int (l * l)) ls (fun l hl' => by
      refine ⟨_, rfl, rfl, fun _ => ?_⟩
      simp [P_ce_spread_of_1, mm (by decide) (by decide) (h.2 l hl') (h.2 l hl')])
    have ef : ls.filter (fun _ => true) = ls := by simp
    rw [ef] at e1
    have ll : ls.length ≤ LIM := Nat.le_trans h.1 (by decide)
    have es := oSum_map (ls.map fun l => l * l) g
    rw [List.map_map] at es
    have m1 : mulOk (ls.length : Int) (ls.map fun l => l * l).sum = true := mulOk_left (h.len.mono (by decide))
    have m2 : mulOk ls.sum ls.sum = true := mm (by decide) (by decide) h.sum h.sum
    have e2 := hl _ _ g hn (h.top.mono hK) (h.len.mono (by omega))
    have hf : (D.int ∘ fun l : Int => l * l) = fun l => D.int (l * l) := rfl
    rw [hf] at es
    have hlen0 : ¬ ls.length = 0 := fun e => h0 (List.length_eq_zero_iff.mp e)
    simp [mFun, P_b_spread_of, h0, hlen0, e1, ll, blkE, wipeE, hideS, es, m1, m2, permL, e2, endR, spreadR]
end GL
/-! GL part 22: how trees are learnt. -/
namespace GL
open PySem L2
noncomputable def P_ce_tests_of_1 : ME := eSub (eLv 7) (eLv 2)
noncomputable def P_lp_tests_of_2 (c_worked : FM) (c_spread_of : FM) (c_labels_of : FM) (c_rows_parted : FM) : MS := sSeq (sAsg (eCall c_rows_parted 3 0 [0, 1, 2] [] (lCons (eLv 0) (lCons (eLv 2) (lCons (eLv 3) (lNil)))) (lNil)) (gSq 2 (gsCons (gNm 4) (gsCons (gNm 5) (gsNil))))) (sIf (tV (eCmp .NotEq (eLv 5) (eNew (fLst (lNil))))) (sSeq (sSet 6 (eCall c_worked 3 0 [0, 1, 2] [] (lCons (eC (.str "plus")) (lCons (eCall c_spread_of 1 0 [0] [] (lCons (eCall c_labels_of 1 0 [0] [] (lCons (eLv 4) (lNil)) (lNil)) (lNil)) (lNil)) (lCons (eCall c_spread_of 1 0 [0] [] (lCons (eCall c_labels_of 1 0 [0] [] (lCons (eLv 5) (lNil)) (lNil)) (lNil)) (lNil)) (lNil)))) (lNil))) (sOwnApp 1 (eTup (lCons (eLv 6) (lCons (eLv 2) (lCons (eLv 3) (lNil))))))) (sSkip))
noncomputable def P_lp_tests_of_3 (c_worked : FM) (c_spread_of : FM) (c_labels_of : FM) (c_rows_parted : FM) (c_rising_numbers : FM) : MS := sFor (iV (eCall c_rising_numbers 1 0 [0] [] (lCons (eNew (lComp (iV (eLv 0)) (gTp 2 (gsCons (gNm 7) (gsCons (gNm 8) (gsNil)))) (tTrue) (P_ce_tests_of_1) [7, 8])) (lNil)) (lNil))) (gNm 3) (P_lp_tests_of_2 c_worked c_spread_of c_labels_of c_rows_parted)
noncomputable def P_b_tests_of (c_worked : FM) (c_spread_of : FM) (c_labels_of : FM) (c_rows_parted : FM) (c_rising_numbers : FM) : MS := sSeq (sSetOwn 1 (fLst (lNil))) (sSeq (sFor (iRange1 (eBi oLen (lCons (eSub (eSub (eLv 0) (eC (.int 0))) (eC (.int 0))) (lNil)))) (gNm 2) (P_lp_tests_of_3 c_worked c_spread_of c_labels_of c_rows_parted c_rising_numbers)) (sFreeze 1 (sRet (eLv 1))))
noncomputable def P_lp_best_test_1 (c_held : FM) : MS := sIf (tV (eCmp .Lt (eCall c_held 2 0 [0, 1] [] (lCons (eLv 3) (lCons (eLv 2) (lNil))) (lNil)) (eC (.int 0)))) (sPar 1 2 (lCons (eTup (lCons (eLv 4) (lCons (eLv 5) (lNil)))) (lCons (eLv 3) (lNil)))) (sSkip)
noncomputable def P_b_best_test (c_held : FM) (c_spread_of : FM) (c_labels_of : FM) (c_tests_of : FM) : MS := sSeq (sPar 1 2 (lCons (eC .non) (lCons (eCall c_spread_of 1 0 [0] [] (lCons (eCall c_labels_of 1 0 [0] [] (lCons (eLv 0) (lNil)) (lNil)) (lNil)) (lNil)) (lNil)))) (sSeq (sFor (iV (eCall c_tests_of 1 0 [0] [] (lCons (eLv 0) (lNil)) (lNil))) (gTp 3 (gsCons (gNm 3) (gsCons (gNm 4) (gsCons (gNm 5) (gsNil))))) (P_lp_best_test_1 c_held)) (sRet (eLv 1)))
noncomputable def P_b_tree_of (c_leaf_of : FM) (c_rows_parted : FM) (c_best_test : FM) (c_tree_of : FM) : MS := sSeq (sSet 2 (eIf (tV (eCmp .Gt (eLv 1) (eC (.int 0)))) (eCall c_best_test 1 0 [0] [] (lCons (eLv 0) (lNil)) (lNil)) (eC .non))) (sSeq (sIf (tV (eCmp .Is (eLv 2) (eC .non))) (sRet (eCall c_leaf_of 1 0 [0] [] (lCons (eLv 0) (lNil)) (lNil))) (sSkip)) (sSeq (sAsg (eLv 2) (gSq 2 (gsCons (gNm 3) (gsCons (gNm 4) (gsNil))))) (sSeq (sAsg (eCall c_rows_parted 3 0 [0, 1, 2] [] (lCons (eLv 0) (lCons (eLv 3) (lCons (eLv 4) (lNil)))) (lNil)) (gSq 2 (gsCons (gNm 5) (gsCons (gNm 6) (gsNil))))) (sRet (eTup (lCons (eC (.str "test")) (lCons (eLv 3) (lCons (eLv 4) (lCons (eCall c_tree_of 1 1 [0, 1] [] (lCons (eLv 5) (lNil)) (lCons (eBin .Sub (eLv 1) (eC (.int 1))) (lNil))) (lCons (eCall c_tree_of 1 1 [0, 1] [] (lCons (eLv 6) (lNil)) (lCons (eBin .Sub (eLv 1) (eC (.int 1))) (lNil))) (lNil)))))))))))
noncomputable def P_wl_answer_of_1 (c_is_yes : FM) : MS := sSeq (sAsg (eLv 3) (gSq 4 (gsCons (gNm 4) (gsCons (gNm 5) (gsCons (gNm 6) (gsCons (gNm 7) (gsNil))))))) (sAsg (eIf (tV (eCall c_is_yes 3 0 [0, 1, 2] [] (lCons (eLv 1) (lCons (eLv 4) (lCons (eLv 5) (lNil)))) (lNil))) (eLv 6) (eLv 7)) (gSt 1 2 (gsCons (gNm 2) (gsCons (gNm 3) (gsNil)))))
noncomputable def P_wt_answer_of_2 : MT := tV (eCmp .Eq (eLv 2) (eC (.str "test")))
noncomputable def P_b_answer_of (c_is_yes : FM) : MS := sSeq (sAsg (eLv 0) (gSt 1 2 (gsCons (gNm 2) (gsCons (gNm 3) (gsNil))))) (sSeq (sWhile (P_wt_answer_of_2) (P_wl_answer_of_1 c_is_yes)) (sRet (eSub (eLv 3) (eC (.int 0)))))
/-- a loop that folds, with what was met before -/
theorem forL_foldP {α S : Type} {tg : MG} {b : MS} {g : Gh} (e : α → D) (f : S → α → S) (s0 : S) (Rl : S → Env' → Prop) (all : List α) (hb : ∀ pre x post, all = pre ++ x :: post → ∀ env, Rl (pre.foldl f s0) env → ∃ env1, tg (e x) env = some env1 ∧ ∃ env2, b env1 g = .nx env2 g ∧ Rl (f (pre.foldl f s0) x) env2) :
    ∀ (post pre : List α) (env : Env'), all = pre ++ post → Rl (pre.foldl f s0) env → ∃ env', forL none tg b (post.map e) env g = .nx env' g ∧ Rl (all.foldl f s0) env'
  | [], pre, env, ha, h => by
    rw [List.append_nil] at ha
    subst ha
    exact ⟨env, forL_nil, h⟩
  | x :: post, pre, env, ha, h => by
    obtain ⟨env1, e1, env2, e2, h2⟩ := hb pre x post ha env h
    obtain ⟨env', e3, h3⟩ := forL_foldP e f s0 Rl all hb post (pre ++ [x]) env2 (by rw [ha]; simp) (by rw [List.foldl_append]; exact h2)
    refine ⟨env', ?_, h3⟩
    rw [List.map_cons, forL_cons, e1]
    simp only [e2]
    exact e3
@[simp] theorem hideS_val {d : D} : hideS (.val d) = .val d := rfl
@[simp] theorem hideS_un : hideS .un = .un := rfl
@[simp] theorem hideS_own {xs : List D} : hideS (.own xs) = .un := rfl
theorem okDs_map {α : Type} {f : α → D} {n : Nat} (h : ∀ x, okD (f x) n = true) (xs : List α) : okDs (xs.map f) n = true := by
  induction xs with
  | nil => rfl
  | cons x xs ih => simp only [List.map_cons, okDs, h x, ih, Bool.and_self]
theorem okD_dR (r : Rat) (n : Nat) : okD (dR r) (n + 1) = true := rfl
theorem frDs_map {α : Type} {f : α → D} (h : ∀ x, frD (f x) = true) (xs : List α) : frDs (xs.map f) = true := by
  induction xs with
  | nil => rfl
  | cons x xs ih => simp only [List.map_cons, frDs, h x, ih, Bool.and_self]
theorem frD_dR (r : Rat) : frD (dR r) = true := rfl
theorem frD_dN (x : Option Rat) : frD (dN x) = true := by cases x <;> rfl
theorem memD_dR (r : Rat) (acc : List Rat) : memD (dR r) (acc.map dR) = decide (r ∈ acc) := by
  induction acc with
  | nil => rfl
  | cons a acc ih =>
    unfold memD at ih ⊢
    rw [List.map_cons, List.any_cons, ih, eqD_dR]
    by_cases h : a = r
    · subst h; simp
    · have : ¬ r = a := fun e => h e.symm
      simp [h, this]
/-! ### numbers in rising order -/
def riseS (acc : List Rat) (x : Option Rat) : List Rat := match x with
  | none => acc
  | some r => if r ∈ acc then acc else acc.take (acc.filter fun a => decide (a < r)).length ++ [r] ++ acc.drop (acc.filter fun a => decide (a < r)).length
def riseR (xs : List (Option Rat)) : List Rat := xs.foldl riseS []
theorem riseS_len (acc : List Rat) (x : Option Rat) : (riseS acc x).length ≤ acc.length + 1 := by
  unfold riseS
  split
  · omega
  · split
    · omega
    · simp only [List.length_append, List.length_take, List.length_drop, List.length_singleton]; omega
theorem riseS_mem {acc : List Rat} {x : Option Rat} {r : Rat} : r ∈ riseS acc x ↔ r ∈ acc ∨ x = some r := by
  unfold riseS
  cases x with
  | none => simp
  | some q =>
    simp only [Option.some.injEq]
    by_cases h : q ∈ acc
    · rw [if_pos h]
      exact ⟨fun h' => .inl h', fun h' => by rcases h' with h' | rfl; exact h'; exact h⟩
    · rw [if_neg h]
      generalize (acc.filter fun a => decide (a < q)).length = n
      have : acc = acc.take n ++ acc.drop n := (List.take_append_drop n acc).symm
      constructor
      · intro h'
        simp only [List.mem_append, List.mem_singleton] at h'
        rcases h' with (h' | h') | h'
        · exact .inl (List.mem_of_mem_take h')
        · exact .inr h'.symm
        · exact .inl (List.mem_of_mem_drop h')
      · intro h'
        simp only [List.mem_append, List.mem_singleton]
        rcases h' with h' | h'
        · rw [this] at h'
          rcases List.mem_append.mp h' with h' | h'
          · exact .inl (.inl h')
          · exact .inr h'
        · exact .inl (.inr h'.symm)
theorem rise_fold_mem (xs : List (Option Rat)) (acc : List Rat) {r : Rat} : r ∈ xs.foldl riseS acc ↔ r ∈ acc ∨ some r ∈ xs := by
  induction xs generalizing acc with
  | nil => simp
  | cons x xs ih =>
    rw [List.foldl_cons, ih, riseS_mem]
    simp only [List.mem_cons]
    constructor
    · rintro ((h | h) | h)
      · exact .inl h
      · exact .inr (.inl h.symm)
      · exact .inr (.inr h)
    · rintro (h | h | h)
      · exact .inl (.inl h)
      · exact .inl (.inr h.symm)
      · exact .inr h
theorem rise_mem {xs : List (Option Rat)} {r : Rat} : r ∈ riseR xs ↔ some r ∈ xs := by
  unfold riseR; rw [rise_fold_mem]; simp
theorem rise_len (xs : List (Option Rat)) (acc : List Rat) : (xs.foldl riseS acc).length ≤ acc.length + xs.length := by
  induction xs generalizing acc with
  | nil => simp
  | cons x xs ih =>
    rw [List.foldl_cons]
    have h1 := ih (riseS acc x)
    have h2 := riseS_len acc x
    simp only [List.length_cons]; omega
def RiseF (k : Nat) (f : FM) : Prop := ∀ (xs : List (Option Rat)) (g : Gh), xs.length ≤ 10000 → (∀ x ∈ xs, SzN k x) → f [.lst (xs.map dN)] g = .ok (.lst ((riseR xs).map dR)) g
theorem rise_spec {k : Nat} {h : FM} (hh : HeldF k h) : RiseF k (mFun 1 4 (P_b_rising_numbers h)) := fun xs g hl hx => by
  have key := forL_foldP (tg := gNm 2) (b := P_lp_rising_numbers_3 h) (g := g) dN riseS ([] : List Rat) (fun acc env => ∃ s2 s3, env = [.val (.lst (xs.map dN)), .own (acc.map dR), s2, s3]) xs (fun pre x post hp env hR => by
    obtain ⟨s2, s3, rfl⟩ := hR
    have hacc : ∀ r ∈ pre.foldl riseS [], Sz k r := fun r hr => by
      have := (rise_fold_mem pre [] (r := r)).mp hr
      simp at this
      exact hx _ (by rw [hp]; simp [this]) r rfl
    have hal : (pre.foldl riseS []).length < LIM := by
      have h1 := rise_len pre []
      have h2 : xs.length = pre.length + (post.length + 1) := by rw [hp]; simp
      have h3 : (10000 : Nat) < LIM := by decide
      simp at h1
      omega
    generalize pre.foldl riseS [] = acc at *
    cases x with
    | none =>
      refine ⟨_, rfl, [.val (.lst (xs.map dN)), .own (acc.map dR), .val (dN none), s3], ?_, _, _, rfl⟩
      simp [P_lp_rising_numbers_3, dN]
    | some r =>
      have hr : Sz k r := hx (some r) (by rw [hp]; simp) r rfl
      have fr : frDs (acc.map dR) = true := frDs_map frD_dR acc
      have hid : ∀ s0 s3 : Sl, hidE [s0, .own (acc.map dR), .val (dR r), s3] 1 (acc.map dR) = [hidS s0, .val (.lst (acc.map dR)), .val (dR r), hidS s3] := fun _ _ => rfl
      have nin : cmpop .NotIn (dR r) (.lst (acc.map dR)) [] = .ok (.bl (!decide (r ∈ acc))) [] := by
        show notR (guardR (okD (dR r) 64 && okD (.lst (acc.map dR)) 64) (.bl (memD (dR r) (acc.map dR))) []) = _
        have ok2 : okD (.lst (acc.map dR)) 64 = true := by
          show okDs (acc.map dR) 63 = true
          exact okDs_map (fun x => okD_dR x 62) acc
        rw [okD_dR, ok2, memD_dR]; rfl
      by_cases hm : r ∈ acc
      · refine ⟨_, rfl, [.val (.lst (xs.map dN)), .own (acc.map dR), .val (dR r), s3], ?_, .val (dR r), s3, ?_⟩
        · simp [P_lp_rising_numbers_3, dN, fr, hid, nin, hm]
        · rw [show riseS acc (some r) = acc by simp [riseS, hm]]
      · have lenc : (acc.filter fun a => decide (a < r)).length ≤ LIM := Nat.le_trans (List.length_filter_le _ _) (Nat.le_of_lt hal)
        have c := compL_mapT (tg := gNm 3) (t := P_ct_rising_numbers_2 h) (el := P_ce_rising_numbers_1) (env := [hideS (hidS (.val (.lst (xs.map dN)))), .val (.lst (acc.map dR)), .val (dR r), .un]) (g := []) dR (fun a => decide (a < r)) dR acc (fun a ha => by
          refine ⟨_, rfl, ?_, fun _ => ?_⟩
          · have e := hh a r [] (hacc a ha) hr
            simp [P_ct_rising_numbers_2, permL, e, held_lt]
          · simp [P_ce_rising_numbers_1])
        have j1 : insOk acc.length ((acc.filter fun a => decide (a < r)).length : Int) = true := ins_ok hal (by omega) (by
          have hL : (LIM : Nat) = 100000 := rfl
          omega)
        refine ⟨_, rfl, [.val (.lst (xs.map dN)), .own ((riseS acc (some r)).map dR), .val (dR r), s3], ?_, _, _, rfl⟩
        have e1 : (eBor 1 (eBi oLen (lCons (eNew (lComp (iV (eLv 1)) (gNm 3) (P_ct_rising_numbers_2 h) (P_ce_rising_numbers_1) [3])) (lNil)))) [.val (.lst (xs.map dN)), .own (acc.map dR), .val (dR r), s3] g = .ok (.int (acc.filter fun a => decide (a < r)).length) g := by
          simp only [eBor_ap, List.getElem?_cons_succ, List.getElem?_cons_zero, fr, if_true, hid]
          simp [blkE, wipeE, c, lenc, plD]
        have e2 : riseS acc (some r) = acc.take (acc.filter fun a => decide (a < r)).length ++ [r] ++ acc.drop (acc.filter fun a => decide (a < r)).length := by simp [riseS, hm]
        have hal' : (acc.map dR).length < LIM := by simpa using hal
        unfold P_lp_rising_numbers_3
        generalize (eBor 1 (eBi oLen (lCons (eNew (lComp (iV (eLv 1)) (gNm 3) (P_ct_rising_numbers_2 h) (P_ce_rising_numbers_1) [3])) (lNil)))) = LE at *
        rw [e2]
        simp [dN, fr, hid, nin, hm, sOwnIns, e1, j1]) xs [] [.val (.lst (xs.map dN)), .own [], .un, .un] rfl ⟨_, _, rfl⟩
  obtain ⟨env', e, s2, s3, rfl⟩ := key
  simp only [mFun, P_b_rising_numbers]
  simp [e, endR, riseR]
end GL
/-! GL part 23: the tests of a table, the best test, the tree. -/
namespace GL
open PySem L2
/-! ### plain data -/
theorem okD_dN (x : Option Rat) (n : Nat) : okD (dN x) (n + 1) = true := by cases x <;> rfl
theorem okD_dNs (xs : List (Option Rat)) (n : Nat) : okD (dNs xs) (n + 2) = true := by
  show okDs (xs.map dN) (n + 1) = true
  exact okDs_map (fun x => okD_dN x n) xs
theorem okD_dRow (r : Row) (n : Nat) : okD (dRow r) (n + 3) = true := by
  show okDs [dNs r.1, .int r.2] (n + 2) = true
  simp only [okDs, okD_dNs, okD, Bool.and_self]
theorem okD_dRows (rows : List Row) (n : Nat) : okD (dRows rows) (n + 4) = true := by
  show okDs (rows.map dRow) (n + 3) = true
  exact okDs_map (fun x => okD_dRow x n) rows
theorem ne_nil (rows : List Row) (g : Gh) : cmpop .NotEq (dRows rows) (.lst []) g = .ok (.bl (!rows.isEmpty)) g := by
  rw [ne_ap]
  have e1 : deref g (dRows rows) = dRows rows := rfl
  have e2 : deref g (.lst []) = .lst [] := rfl
  have e3 : eqD (dRows rows) (.lst []) = rows.isEmpty := by cases rows <;> rfl
  rw [e1, e2, okE_ok (okD_dRows rows 60) rfl, e3]; rfl
def lblR (rows : List Row) : List Int := rows.map (·.2)
theorem RowsOk.ls {k n m : Nat} {rows : List Row} (h : RowsOk k n m rows) (hm : m ≤ 1000) : LsOk (lblR rows) := by
  refine ⟨by simp only [lblR, List.length_map]; exact Nat.le_trans h.1 hm, fun l hl => ?_⟩
  obtain ⟨r, hr, rfl⟩ := List.mem_map.mp hl
  exact (h.2 r hr).2
theorem RowsOk.filter {k n m : Nat} {rows : List Row} (h : RowsOk k n m rows) (p : Row → Bool) : RowsOk k n m (rows.filter p) :=
  ⟨Nat.le_trans (List.length_filter_le _ _) h.1, fun r hr => h.2 r (List.mem_filter.mp hr).1⟩
/-! ### leaves -/
def meanR (ls : List Int) : Rat := Rat.divInt ls.sum ls.length
theorem mean_sz {ls : List Int} (h : LsOk ls) (h0 : ls ≠ []) : Sz 30 (meanR ls) := by
  have : (ls.length : Int) ≠ 0 := by
    have : ls.length ≠ 0 := fun e => h0 (List.length_eq_zero_iff.mp e)
    omega
  exact .div this h.sum (h.len.mono (by decide))
def LeafF (m : Nat) (f : FM) : Prop := ∀ (rows : List Row) (k n : Nat) (g : Gh), RowsOk k n m rows → rows ≠ [] → f [dRows rows] g = .ok (.tup [.str "leaf", dR (meanR (lblR rows))]) g
theorem leaf_spec {K m : Nat} {lw lb : FM} (hl : LowF K lw) (hb : LabF lb) (hK : 30 ≤ K) (hm : m ≤ 1000) : LeafF m (mFun 1 2 (P_b_leaf_of lw lb)) := fun rows k n g h h0 => by
  have ho := h.ls hm
  have e1 := hb rows g (Nat.le_trans h.1 (Nat.le_trans hm (by decide)))
  have hn : lblR rows ≠ [] := fun e => h0 (List.map_eq_nil_iff.mp e)
  have hn' : ((lblR rows).length : Int) ≠ 0 := by
    have : (lblR rows).length ≠ 0 := fun e => hn (List.length_eq_zero_iff.mp e)
    omega
  have e2 := hl _ _ g hn' (ho.sum.mono hK) (ho.len.mono (by omega))
  change lb [dRows rows] g = .ok (.lst ((lblR rows).map D.int)) g at e1
  have e3 := oSum_map (lblR rows) g
  generalize lblR rows = ls at *
  simp [mFun, P_b_leaf_of, permL, e1, e2, lim2, endR, meanR, asInts_map, oSum]
/-! ### tests -/
abbrev Tst := Rat × Nat × Rat
def dTst (t : Tst) : D := .tup [dR t.1, .int t.2.1, dR t.2.2]
def yesR (c : Nat) (cut : Rat) (rows : List Row) : List Row := rows.filter fun r => isYes c cut r.1
def noR (c : Nat) (cut : Rat) (rows : List Row) : List Row := rows.filter fun r => !isYes c cut r.1
def testS (rows : List Row) (c : Nat) (acc : List Tst) (cut : Rat) : List Tst :=
  if noR c cut rows = [] then acc else acc ++ [(spreadR (lblR (yesR c cut rows)) + spreadR (lblR (noR c cut rows)), c, cut)]
def colR (c : Nat) (rows : List Row) : List (Option Rat) := rows.map fun r => r.1[c]?.getD none
def testC (rows : List Row) (acc : List Tst) (c : Nat) : List Tst := (riseR (colR c rows)).foldl (testS rows c) acc
def testsR (n : Nat) (rows : List Row) : List Tst := (List.range n).foldl (testC rows) []
theorem testS_len (rows : List Row) (c : Nat) (acc : List Tst) (cuts : List Rat) : (cuts.foldl (testS rows c) acc).length ≤ acc.length + cuts.length := by
  induction cuts generalizing acc with
  | nil => simp
  | cons x xs ih =>
    rw [List.foldl_cons]
    have h1 := ih (testS rows c acc x)
    have h2 : (testS rows c acc x).length ≤ acc.length + 1 := by
      unfold testS; split <;> simp
    simp only [List.length_cons]; omega
theorem rise_len' (xs : List (Option Rat)) : (riseR xs).length ≤ xs.length := by
  have := rise_len xs []
  unfold riseR; simpa using this
theorem testC_len (rows : List Row) (cs : List Nat) (acc : List Tst) : (cs.foldl (testC rows) acc).length ≤ acc.length + cs.length * rows.length := by
  induction cs generalizing acc with
  | nil => simp
  | cons x xs ih =>
    rw [List.foldl_cons]
    have h1 := ih (testC rows acc x)
    have h2 := testS_len rows x acc (riseR (colR x rows))
    have h3 := rise_len' (colR x rows)
    have h4 : (colR x rows).length = rows.length := by simp [colR]
    have h5 : (testC rows acc x).length ≤ acc.length + rows.length := by unfold testC; omega
    simp only [List.length_cons, Nat.add_mul, Nat.one_mul]; omega
def PlusF (k : Nat) (f : FM) : Prop := ∀ (r s : Rat) (g : Gh), Sz k r → Sz k s → f [.str "plus", dR r, dR s] g = .ok (dR (r + s)) g
def TestsF (k m : Nat) (f : FM) : Prop := ∀ (rows : List Row) (n : Nat) (g : Gh), RowsOk k n m rows → rows ≠ [] → n ≤ 100 → f [dRows rows] g = .ok (.lst ((testsR n rows).map dTst)) g
theorem col_ok {k n m c : Nat} {rows : List Row} (h : RowsOk k n m rows) (hc : c < n) : ∀ x ∈ colR c rows, SzN k x := fun x hx => by
  obtain ⟨r, hr, rfl⟩ := List.mem_map.mp hx
  have h1 := (h.2 r hr).1
  have : c < r.1.length := by rw [h1.1]; exact hc
  have e : r.1[c]?.getD none = r.1[c] := by simp [this]
  rw [e]
  exact h1.2 _ (List.getElem_mem this)
theorem tests_spec {k m : Nat} {wk sp lb pt rs : FM} (hw : PlusF 71 wk) (hs : SpreadF sp) (hl : LabF lb) (hp : PartF k m pt) (hr : RiseF k rs) (hm : m ≤ 100) : TestsF k m (mFun 1 9 (P_b_tests_of wk sp lb pt rs)) := fun rows n g ho hne hn => by
  have hrl : rows.length ≤ 100 := Nat.le_trans ho.1 hm
  have hlim : (20000 : Nat) < LIM := by decide
  have inner : ∀ c, c < n → ∀ (acc : List Tst) (s3 s4 s5 s6 s7 s8 : Sl), acc.length ≤ 10000 → ∃ y3 y4 y5 y6, forL none (gNm 3) (P_lp_tests_of_2 wk sp lb pt) ((riseR (colR c rows)).map dR) [.val (dRows rows), .own (acc.map dTst), .val (.int c), s3, s4, s5, s6, s7, s8] g = .nx [.val (dRows rows), .own ((testC rows acc c).map dTst), .val (.int c), y3, y4, y5, y6, s7, s8] g := fun c hc acc s3 s4 s5 s6 s7 s8 ha => by
    obtain ⟨env', e, x3, x4, x5, x6, rfl⟩ := forL_foldP (tg := gNm 3) (b := P_lp_tests_of_2 wk sp lb pt) (g := g) dR (testS rows c) acc (fun acc env => ∃ s3 s4 s5 s6, env = [.val (dRows rows), .own (acc.map dTst), .val (.int c), s3, s4, s5, s6, s7, s8]) (riseR (colR c rows)) (fun pre cut post hpp env hR => by
      obtain ⟨s3, s4, s5, s6, rfl⟩ := hR
      have hcut : Sz k cut := by
        have : cut ∈ riseR (colR c rows) := by rw [hpp]; simp
        exact col_ok ho hc _ (rise_mem.mp this) cut rfl
      have hlen : (pre.foldl (testS rows c) acc).length < LIM := by
        have h1 := testS_len rows c acc pre
        have h2 := rise_len' (colR c rows)
        have h3 : (colR c rows).length = rows.length := by simp [colR]
        rw [hpp] at h2
        simp at h2
        omega
      generalize pre.foldl (testS rows c) acc = ac at *
      have e1 := hp rows n c cut g ho hc hcut
      change pt [dRows rows, .int c, dR cut] g = .ok (.tup [dRows (yesR c cut rows), dRows (noR c cut rows)]) g at e1
      have oy : RowsOk k n m (yesR c cut rows) := ho.filter _
      have on : RowsOk k n m (noR c cut rows) := ho.filter _
      have ly := hl (yesR c cut rows) g (Nat.le_trans oy.1 (Nat.le_trans hm (by decide)))
      have ln := hl (noR c cut rows) g (Nat.le_trans on.1 (Nat.le_trans hm (by decide)))
      change lb [dRows (yesR c cut rows)] g = .ok (.lst ((lblR (yesR c cut rows)).map D.int)) g at ly
      change lb [dRows (noR c cut rows)] g = .ok (.lst ((lblR (noR c cut rows)).map D.int)) g at ln
      have lsy := oy.ls (Nat.le_trans hm (by decide))
      have lsn := on.ls (Nat.le_trans hm (by decide))
      have sy := hs _ g lsy
      have sn := hs _ g lsn
      have pl := hw _ _ g (spread_sz lsy) (spread_sz lsn)
      have nn := ne_nil (noR c cut rows) g
      by_cases h0 : noR c cut rows = []
      · refine ⟨_, rfl, [.val (dRows rows), .own (ac.map dTst), .val (.int c), .val (dR cut), .val (dRows (yesR c cut rows)), .val (dRows (noR c cut rows)), s6, s7, s8], ?_, .val (dR cut), .val (dRows (yesR c cut rows)), .val (dRows (noR c cut rows)), s6, ?_⟩
        · rw [h0] at nn e1 ⊢
          simp [P_lp_tests_of_2, permL, e1, nn]
        · rw [show testS rows c ac cut = ac by simp [testS, h0]]
      · have hb : (noR c cut rows).isEmpty = false := by
          cases hq : noR c cut rows with
          | nil => exact absurd hq h0
          | cons _ _ => rfl
        rw [hb] at nn
        refine ⟨_, rfl, [.val (dRows rows), .own ((ac ++ [(spreadR (lblR (yesR c cut rows)) + spreadR (lblR (noR c cut rows)), c, cut)]).map dTst), .val (.int c), .val (dR cut), .val (dRows (yesR c cut rows)), .val (dRows (noR c cut rows)), .val (dR (spreadR (lblR (yesR c cut rows)) + spreadR (lblR (noR c cut rows)))), s7, s8], ?_, .val (dR cut), .val (dRows (yesR c cut rows)), .val (dRows (noR c cut rows)), .val (dR (spreadR (lblR (yesR c cut rows)) + spreadR (lblR (noR c cut rows)))), ?_⟩
        · generalize lblR (yesR c cut rows) = lA at *
          generalize lblR (noR c cut rows) = lB at *
          simp [P_lp_tests_of_2, permL, e1, nn, ly, ln, sy, sn, pl, hlen, lim3, dTst]
        · rw [show testS rows c ac cut = ac ++ [(spreadR (lblR (yesR c cut rows)) + spreadR (lblR (noR c cut rows)), c, cut)] by simp [testS, h0]]) (riseR (colR c rows)) [] _ rfl ⟨s3, s4, s5, s6, rfl⟩
    exact ⟨x3, x4, x5, x6, e⟩
  have colE : ∀ c, c < n → ∀ (s1 s3 s4 s5 s6 s7 s8 : Sl), eNew (lComp (iV (eLv 0)) (gTp 2 (gsCons (gNm 7) (gsCons (gNm 8) (gsNil)))) (tTrue) (P_ce_tests_of_1) [7, 8]) [.val (dRows rows), s1, .val (.int c), s3, s4, s5, s6, s7, s8] g = .ok (.lst ((colR c rows).map dN)) g := fun c hc s1 s3 s4 s5 s6 s7 s8 => by
    have e1 := compL_mapT (tg := gTp 2 (gsCons (gNm 7) (gsCons (gNm 8) gsNil))) (t := tTrue) (el := P_ce_tests_of_1) (env := [.val (dRows rows), hideS s1, .val (.int c), hideS s3, hideS s4, hideS s5, hideS s6, .un, .un]) (g := g) dRow (fun _ => true) (fun r => dN (r.1[c]?.getD none)) rows (fun r hr' => by
      refine ⟨[.val (dRows rows), hideS s1, .val (.int c), hideS s3, hideS s4, hideS s5, hideS s6, .val (dNs r.1), .val (.int r.2)], by simp [dRow], rfl, fun _ => ?_⟩
      have hc' : c < r.1.length := by rw [(ho.2 r hr').1.1]; exact hc
      have e1 : atI (r.1.map dN) (c : Int) = some (dN r.1[c]) := by rw [atI_nat (by simpa using hc')]; simp
      simp [P_ce_tests_of_1, dNs, e1, hc'])
    have ef : rows.filter (fun _ => true) = rows := by simp
    rw [ef] at e1
    simp only [dRows] at e1
    have hl' : rows.length ≤ LIM := by omega
    simp [dRows, blkE, wipeE, e1, hl', colR]
  have a00 : eBi oLen (lCons (eSub (eSub (eLv 0) (eC (.int 0))) (eC (.int 0))) (lNil)) [.val (dRows rows), .own [], .un, .un, .un, .un, .un, .un, .un] g = .ok (.int n) g := by
    cases rows with
    | nil => exact absurd rfl hne
    | cons r rows =>
      have e1 : atI (dRow r :: rows.map dRow) 0 = some (dRow r) := atI0
      have e1' : eSub (eSub (eLv 0) (eC (.int 0))) (eC (.int 0)) [.val (dRows (r :: rows)), .own [], .un, .un, .un, .un, .un, .un, .un] g = .ok (dNs r.1) g := by
        simp [dRows, e1]; simp [dRow]; rfl
      have e2 : atI [dNs r.1, D.int r.2] 0 = some (dNs r.1) := rfl
      have e3 : r.1.length = n := (ho.2 r List.mem_cons_self).1.1
      simp only [eBi_ap, lCons_ap, e1', lNil_ap, R.bind_ok]
      simp [dNs, e3]
  obtain ⟨env', e, x2, x3, x4, x5, x6, x7, x8, rfl⟩ := forL_foldP (tg := gNm 2) (b := P_lp_tests_of_3 wk sp lb pt rs) (g := g) (fun i : Nat => D.int (0 + i)) (testC rows) ([] : List Tst) (fun acc env => ∃ s2 s3 s4 s5 s6 s7 s8, env = [.val (dRows rows), .own (acc.map dTst), s2, s3, s4, s5, s6, s7, s8]) (List.range n) (fun pre c post hpp env hR => by
    obtain ⟨s2, s3, s4, s5, s6, s7, s8, rfl⟩ := hR
    have hc : c < n := by
      have : c ∈ List.range n := by rw [hpp]; simp
      exact List.mem_range.mp this
    have hlen : (pre.foldl (testC rows) []).length ≤ 10000 := by
      have h1 := testC_len rows pre []
      have h2 : pre.length ≤ 100 := by
        have : (List.range n).length = pre.length + (post.length + 1) := by rw [hpp]; simp
        simp at this; omega
      have h3 : pre.length * rows.length ≤ 100 * 100 := Nat.mul_le_mul h2 hrl
      simp at h1
      omega
    generalize pre.foldl (testC rows) [] = acc at *
    obtain ⟨y3, y4, y5, y6, e⟩ := inner c hc acc s3 s4 s5 s6 s7 s8 hlen
    refine ⟨_, rfl, [.val (dRows rows), .own ((testC rows acc c).map dTst), .val (.int c), y3, y4, y5, y6, s7, s8], ?_, .val (.int c), y3, y4, y5, y6, s7, s8, rfl⟩
    have e1 := colE c hc (.own (acc.map dTst)) s3 s4 s5 s6 s7 s8
    have e2 := hr (colR c rows) g (by simp [colR]; omega) (col_ok ho hc)
    unfold P_lp_tests_of_3
    generalize eNew (lComp (iV (eLv 0)) (gTp 2 (gsCons (gNm 7) (gsCons (gNm 8) (gsNil)))) (tTrue) (P_ce_tests_of_1) [7, 8]) = CE at *
    simp [permL, e1, e2, e]) (List.range n) [] [.val (dRows rows), .own [], .un, .un, .un, .un, .un, .un, .un] rfl ⟨_, _, _, _, _, _, _, rfl⟩
  have e' : forL none (gNm 2) (P_lp_tests_of_3 wk sp lb pt rs) (rangeD 0 n) [.val (dRows rows), .own [], .un, .un, .un, .un, .un, .un, .un] g = _ := e
  have rn : rngOk (n : Int) = true := rng_nat (by omega)
  unfold P_b_tests_of mFun
  generalize eBi oLen (lCons (eSub (eSub (eLv 0) (eC (.int 0))) (eC (.int 0))) (lNil)) = LE at *
  simp [a00, rn, e', endR, testsR]
end GL
/-! GL part 24: the best test, the tree, its answers. -/
namespace GL
open PySem L2
/-! ### what stands among the tests -/
def TstOk (k n : Nat) (rows : List Row) (t : Tst) : Prop := t.2.1 < n ∧ some t.2.2 ∈ colR t.2.1 rows ∧ noR t.2.1 t.2.2 rows ≠ [] ∧ t.1 = spreadR (lblR (yesR t.2.1 t.2.2 rows)) + spreadR (lblR (noR t.2.1 t.2.2 rows))
theorem testS_all {P : Tst → Prop} {rows : List Row} {c : Nat} : ∀ (cuts : List Rat) (acc : List Tst), (∀ t ∈ acc, P t) → (∀ cut ∈ cuts, noR c cut rows ≠ [] → P (spreadR (lblR (yesR c cut rows)) + spreadR (lblR (noR c cut rows)), c, cut)) → ∀ t ∈ cuts.foldl (testS rows c) acc, P t
  | [], acc, h, _ => h
  | x :: xs, acc, h, hp => by
    rw [List.foldl_cons]
    refine testS_all xs _ (fun t ht => ?_) (fun cut hc => hp cut (List.mem_cons_of_mem _ hc))
    unfold testS at ht
    split at ht
    · exact h t ht
    · rename_i hn
      rcases List.mem_append.mp ht with ht | ht
      · exact h t ht
      · simp at ht; subst ht; exact hp x List.mem_cons_self hn
theorem testC_all {P : Tst → Prop} {rows : List Row} : ∀ (cs : List Nat) (acc : List Tst), (∀ t ∈ acc, P t) → (∀ c ∈ cs, ∀ cut, some cut ∈ colR c rows → noR c cut rows ≠ [] → P (spreadR (lblR (yesR c cut rows)) + spreadR (lblR (noR c cut rows)), c, cut)) → ∀ t ∈ cs.foldl (testC rows) acc, P t
  | [], acc, h, _ => h
  | c :: cs, acc, h, hp => by
    rw [List.foldl_cons]
    refine testC_all cs _ (fun t ht => ?_) (fun c' hc => hp c' (List.mem_cons_of_mem _ hc))
    exact testS_all _ acc h (fun cut hcut hn => hp c List.mem_cons_self cut (rise_mem.mp hcut) hn) t ht
theorem tests_ok {n : Nat} {rows : List Row} {k : Nat} : ∀ t ∈ testsR n rows, TstOk k n rows t := by
  refine testC_all _ _ (fun _ h => nomatch h) fun c hc cut hcut hn => ⟨List.mem_range.mp hc, hcut, hn, rfl⟩
theorem yes_ne {c : Nat} {cut : Rat} {rows : List Row} (h : some cut ∈ colR c rows) : yesR c cut rows ≠ [] := by
  obtain ⟨r, hr, e⟩ := List.mem_map.mp h
  intro e2
  have : r ∈ yesR c cut rows := by
    refine List.mem_filter.mpr ⟨hr, ?_⟩
    unfold isYes
    cases q : r.1[c]? with
    | none => rw [q] at e; cases e
    | some x =>
      rw [q] at e
      have e : x = some cut := e
      subst e
      simp [Rat.le_refl]
  rw [e2] at this
  cases this
/-! ### the best test -/
def bestS (b : Option (Nat × Rat) × Rat) (t : Tst) : Option (Nat × Rat) × Rat := if t.1 < b.2 then (some t.2, t.1) else b
def bestR (n : Nat) (rows : List Row) : Option (Nat × Rat) := ((testsR n rows).foldl bestS (none, spreadR (lblR rows))).1
def dB : Option (Nat × Rat) → D
  | none => .non
  | some p => .tup [.int p.1, dR p.2]
theorem bestS_all {P : Nat × Rat → Prop} : ∀ (ts : List Tst) (b : Option (Nat × Rat) × Rat), (∀ p, b.1 = some p → P p) → (∀ t ∈ ts, P t.2) → ∀ p, (ts.foldl bestS b).1 = some p → P p
  | [], b, h, _ => h
  | t :: ts, b, h, hp => by
    rw [List.foldl_cons]
    refine bestS_all ts _ (fun p hq => ?_) (fun t' ht => hp t' (List.mem_cons_of_mem _ ht))
    unfold bestS at hq
    split at hq
    · cases hq; exact hp t List.mem_cons_self
    · exact h p hq
theorem best_some {k n m : Nat} {rows : List Row} (ho : RowsOk k n m rows) {p : Nat × Rat} (h : bestR n rows = some p) : p.1 < n ∧ Sz k p.2 ∧ yesR p.1 p.2 rows ≠ [] ∧ noR p.1 p.2 rows ≠ [] := by
  refine bestS_all (P := fun p => p.1 < n ∧ Sz k p.2 ∧ yesR p.1 p.2 rows ≠ [] ∧ noR p.1 p.2 rows ≠ []) _ _ (fun _ e => by cases e) (fun t ht => ?_) p h
  obtain ⟨h1, h2, h3, _⟩ := tests_ok (k := k) t ht
  exact ⟨h1, col_ok ho h1 _ h2 _ rfl, yes_ne h2, h3⟩
def BestF (k m : Nat) (f : FM) : Prop := ∀ (rows : List Row) (n : Nat) (g : Gh), RowsOk k n m rows → rows ≠ [] → n ≤ 100 → f [dRows rows] g = .ok (dB (bestR n rows)) g
theorem best_spec {k m : Nat} {hd sp lb ts : FM} (hh : HeldF 143 hd) (hs : SpreadF sp) (hl : LabF lb) (ht : TestsF k m ts) (hm : m ≤ 100) : BestF k m (mFun 1 6 (P_b_best_test hd sp lb ts)) := fun rows n g ho hne hn => by
  have lo := ho.ls (Nat.le_trans hm (by decide))
  have e1 := hl rows g (Nat.le_trans ho.1 (Nat.le_trans hm (by decide)))
  change lb [dRows rows] g = .ok (.lst ((lblR rows).map D.int)) g at e1
  have e2 := hs _ g lo
  have e3 := ht rows n g ho hne hn
  have sz : ∀ t ∈ testsR n rows, Sz 143 t.1 := fun t h => by
    obtain ⟨_, _, _, h4⟩ := tests_ok (k := k) t h
    rw [h4]
    exact (spread_sz ((ho.filter _).ls (Nat.le_trans hm (by decide)))).add (spread_sz ((ho.filter _).ls (Nat.le_trans hm (by decide))))
  obtain ⟨env', e, ⟨s3, s4, s5, rfl⟩, _⟩ := forL_fold (tg := gTp 3 (gsCons (gNm 3) (gsCons (gNm 4) (gsCons (gNm 5) (gsNil))))) (b := P_lp_best_test_1 hd) (g := g) dTst bestS (fun b env => (∃ s3 s4 s5, env = [.val (dRows rows), .val (dB b.1), .val (dR b.2), s3, s4, s5]) ∧ Sz 143 b.2) (testsR n rows) (none, spreadR (lblR rows)) [.val (dRows rows), .val (dB none), .val (dR (spreadR (lblR rows))), .un, .un, .un] (by
    rintro t htm b env ⟨⟨s3, s4, s5, rfl⟩, hb⟩
    have hz := sz t htm
    have e := hh t.1 b.2 g hz hb
    have elt := held_lt (r := t.1) (s := b.2)
    refine ⟨[.val (dRows rows), .val (dB b.1), .val (dR b.2), .val (dR t.1), .val (.int t.2.1), .val (dR t.2.2)], by simp [dTst], ?_⟩
    by_cases hlt : t.1 < b.2
    · have hd0 : heldR t.1 b.2 < 0 := by rw [decide_eq_true hlt] at elt; exact of_decide_eq_true elt
      refine ⟨[.val (dRows rows), .val (dB (some t.2)), .val (dR t.1), .val (dR t.1), .val (.int t.2.1), .val (dR t.2.2)], ?_, ?_⟩
      · simp [P_lp_best_test_1, permL, e, hd0, lim2, dB]
      · rw [show bestS b t = (some t.2, t.1) by simp [bestS, hlt]]
        exact ⟨⟨_, _, _, rfl⟩, hz⟩
    · have hd0 : ¬ heldR t.1 b.2 < 0 := by rw [decide_eq_false hlt] at elt; exact of_decide_eq_false elt
      refine ⟨[.val (dRows rows), .val (dB b.1), .val (dR b.2), .val (dR t.1), .val (.int t.2.1), .val (dR t.2.2)], ?_, ?_⟩
      · simp [P_lp_best_test_1, permL, e, hd0]
      · rw [show bestS b t = b by simp [bestS, hlt]]
        exact ⟨⟨_, _, _, rfl⟩, hb⟩) ⟨⟨_, _, _, rfl⟩, (spread_sz lo).mono (by decide)⟩
  have d0 : dB none = .non := rfl
  rw [d0] at e
  unfold bestR
  generalize lblR rows = ls at *
  simp only [mFun, P_b_best_test]
  simp [permL, e1, e2, e3, e, endR]
/-! ### trees -/
inductive Tr where
  | leaf (r : Rat) | test (c : Nat) (cut : Rat) (y z : Tr)
def dT : Tr → D
  | .leaf r => .tup [.str "leaf", dR r]
  | .test c cut y z => .tup [.str "test", .int c, dR cut, dT y, dT z]
def treeR (n : Nat) : Nat → List Row → Tr
  | 0, rows => .leaf (meanR (lblR rows))
  | d + 1, rows => match bestR n rows with
    | none => .leaf (meanR (lblR rows))
    | some p => .test p.1 p.2 (treeR n d (yesR p.1 p.2 rows)) (treeR n d (noR p.1 p.2 rows))
def TreeF (k m d : Nat) (f : FM) : Prop := ∀ (rows : List Row) (n : Nat) (g : Gh), RowsOk k n m rows → rows ≠ [] → n ≤ 100 → f [dRows rows, .int d] g = .ok (dT (treeR n d rows)) g
theorem tree_0 {k m : Nat} {lf pt bt tr : FM} (hl : LeafF m lf) : TreeF k m 0 (mFun 2 7 (P_b_tree_of lf pt bt tr)) := fun rows n g ho hne hn => by
  have e1 := hl rows k n g ho hne
  simp [mFun, P_b_tree_of, permL, e1, endR, treeR, dT]
theorem tree_s {k m d : Nat} {lf pt bt tr : FM} (hl : LeafF m lf) (hp : PartF k m pt) (hb : BestF k m bt) (ht : TreeF k m d tr) : TreeF k m (d + 1) (mFun 2 7 (P_b_tree_of lf pt bt tr)) := fun rows n g ho hne hn => by
  have e1 := hl rows k n g ho hne
  have e2 := hb rows n g ho hne hn
  have h1 : (0 : Int) < (d : Int) + 1 := by omega
  cases hq : bestR n rows with
  | none =>
    rw [hq] at e2
    simp only [dB] at e2
    simp [mFun, P_b_tree_of, permL, e1, e2, h1, endR, treeR, dT, hq]
  | some p =>
    rw [hq] at e2
    simp only [dB] at e2
    obtain ⟨p1, p2, p3, p4⟩ := best_some ho hq
    have e3 := hp rows n p.1 p.2 g ho p1 p2
    change pt [dRows rows, .int p.1, dR p.2] g = .ok (.tup [dRows (yesR p.1 p.2 rows), dRows (noR p.1 p.2 rows)]) g at e3
    have e4 := ht (yesR p.1 p.2 rows) n g (ho.filter _) p3 hn
    have e5 := ht (noR p.1 p.2 rows) n g (ho.filter _) p4 hn
    have hd : (d : Int) + 1 - 1 = d := by omega
    simp [mFun, P_b_tree_of, permL, e2, h1, e3, hd, e4, e5, lim5, endR, treeR, dT, hq]
/-- all tests below n, the parts of less than k bits, no deeper than d -/
def TrOk (k n : Nat) : Nat → Tr → Prop
  | _, .leaf r => Sz k r
  | 0, .test _ _ _ _ => False
  | d + 1, .test c cut y z => c < n ∧ Sz k cut ∧ TrOk k n d y ∧ TrOk k n d z
theorem tree_ok {k n m : Nat} (hk : 30 ≤ k) (hm : m ≤ 100) : ∀ (d : Nat) (rows : List Row), RowsOk k n m rows → rows ≠ [] → TrOk k n d (treeR n d rows)
  | 0, rows, ho, hne => (mean_sz (ho.ls (Nat.le_trans hm (by decide))) (fun e => hne (List.map_eq_nil_iff.mp e))).mono hk
  | d + 1, rows, ho, hne => by
    unfold treeR
    cases hq : bestR n rows with
    | none => exact (mean_sz (ho.ls (Nat.le_trans hm (by decide))) (fun e => hne (List.map_eq_nil_iff.mp e))).mono hk
    | some p =>
      obtain ⟨p1, p2, p3, p4⟩ := best_some ho hq
      exact ⟨p1, p2, tree_ok hk hm d _ (ho.filter _) p3, tree_ok hk hm d _ (ho.filter _) p4⟩
/-! ### answers -/
def ansR : Tr → List (Option Rat) → Rat
  | .leaf r, _ => r
  | .test c cut y z, xs => if isYes c cut xs then ansR y xs else ansR z xs
def hdT : Tr → D
  | .leaf _ => .str "leaf"
  | .test _ _ _ _ => .str "test"
def tlT : Tr → List D
  | .leaf r => [dR r]
  | .test c cut y z => [.int c, dR cut, dT y, dT z]
theorem dT_eq (t : Tr) : dT t = .tup (hdT t :: tlT t) := by cases t <;> rfl
theorem star_T {t : Tr} {a b : MG} {env : Env'} : gSt 1 2 (gsCons a (gsCons b gsNil)) (dT t) env = (a (hdT t) env).bind fun e => (b (.lst (tlT t)) e).bind fun e => some e := by
  cases t <;> rfl
def AnsF (k : Nat) (f : FM) : Prop := ∀ (t : Tr) (d n : Nat) (xs : List (Option Rat)) (g : Gh), TrOk k n d t → NsOk k n xs → f [dT t, dNs xs] g = .ok (dR (ansR t xs)) g
theorem ans_loop {k : Nat} {y : FM} (hy : YesF k y) {n : Nat} {xs : List (Option Rat)} (hx : NsOk k n xs) {g : Gh} : ∀ (d : Nat) (t : Tr) (s0 s4 s5 s6 s7 : Sl), TrOk k n d t →
    ∃ s2 s4' s5' s6' s7', sWhile P_wt_answer_of_2 (P_wl_answer_of_1 y) [s0, .val (dNs xs), .val (hdT t), .val (.lst (tlT t)), s4, s5, s6, s7] g = .nx [s0, .val (dNs xs), s2, .val (.lst [dR (ansR t xs)]), s4', s5', s6', s7'] g := by
  have base : ∀ (r : Rat) (s0 s4 s5 s6 s7 : Sl), ∃ s2 s4' s5' s6' s7', sWhile P_wt_answer_of_2 (P_wl_answer_of_1 y) [s0, .val (dNs xs), .val (hdT (.leaf r)), .val (.lst (tlT (.leaf r))), s4, s5, s6, s7] g = .nx [s0, .val (dNs xs), s2, .val (.lst [dR r]), s4', s5', s6', s7'] g := fun r s0 s4 s5 s6 s7 => by
    refine ⟨.val (.str "leaf"), s4, s5, s6, s7, ?_⟩
    have ne : ∀ g : Gh, cmpop .Eq (.str "leaf") (.str "test") g = .ok (.bl false) g := fun g => eqS_no (by decide +kernel)
    rw [sWhile_eq]
    simp [P_wt_answer_of_2, hdT, tlT, ne]
  intro d
  induction d with
  | zero =>
    intro t s0 s4 s5 s6 s7 ht
    cases t with
    | leaf r => exact base r s0 s4 s5 s6 s7
    | test c cut y z => exact ht.elim
  | succ d ih =>
    intro t s0 s4 s5 s6 s7 ht
    cases t with
    | leaf r => exact base r s0 s4 s5 s6 s7
    | test c cut ty tz =>
      obtain ⟨h1, h2, h3, h4⟩ := ht
      have e1 := hy xs n c cut g hx h1 h2
      have tt : P_wt_answer_of_2 [s0, .val (dNs xs), .val (hdT (.test c cut ty tz)), .val (.lst (tlT (.test c cut ty tz))), s4, s5, s6, s7] g = .ok true g := by
        simp [P_wt_answer_of_2, hdT]
      have bb : P_wl_answer_of_1 y [s0, .val (dNs xs), .val (hdT (.test c cut ty tz)), .val (.lst (tlT (.test c cut ty tz))), s4, s5, s6, s7] g = .nx [s0, .val (dNs xs), .val (hdT (if isYes c cut xs then ty else tz)), .val (.lst (tlT (if isYes c cut xs then ty else tz))), .val (.int c), .val (dR cut), .val (dT ty), .val (dT tz)] g := by
        by_cases hq : isYes c cut xs = true
        · rw [hq] at e1
          simp [P_wl_answer_of_1, tlT, permL, e1, star_T, hq]
        · have hq : isYes c cut xs = false := by simpa using hq
          rw [hq] at e1
          simp [P_wl_answer_of_1, tlT, permL, e1, star_T, hq]
      have st : sWhile P_wt_answer_of_2 (P_wl_answer_of_1 y) [s0, .val (dNs xs), .val (hdT (.test c cut ty tz)), .val (.lst (tlT (.test c cut ty tz))), s4, s5, s6, s7] g = sWhile P_wt_answer_of_2 (P_wl_answer_of_1 y) [s0, .val (dNs xs), .val (hdT (if isYes c cut xs then ty else tz)), .val (.lst (tlT (if isYes c cut xs then ty else tz))), .val (.int c), .val (dR cut), .val (dT ty), .val (dT tz)] g := by
        conv => lhs; rw [sWhile_eq]
        rw [tt]
        show (match P_wl_answer_of_1 y [s0, .val (dNs xs), .val (hdT (.test c cut ty tz)), .val (.lst (tlT (.test c cut ty tz))), s4, s5, s6, s7] g with | .nx env' g2 => _ | .ct env' g2 => _ | .bk env' g2 => _ | r => _) = _
        rw [bb]
      rw [st]
      by_cases hq : isYes c cut xs = true
      · simp only [hq, if_true, ansR]
        exact ih ty s0 (.val (.int c)) (.val (dR cut)) (.val (dT ty)) (.val (dT tz)) h3
      · have hq : isYes c cut xs = false := by simpa using hq
        simp only [hq, ansR]
        exact ih tz s0 (.val (.int c)) (.val (dR cut)) (.val (dT ty)) (.val (dT tz)) h4
theorem ans_spec {k : Nat} {y : FM} (hy : YesF k y) : AnsF k (mFun 2 8 (P_b_answer_of y)) := fun t d n xs g ht hx => by
  obtain ⟨s2, s4, s5, s6, s7, e⟩ := ans_loop hy hx (g := g) d t (.val (dT t)) .un .un .un .un ht
  have a0 : ∀ x : D, atI [x] 0 = some x := fun _ => rfl
  simp [mFun, P_b_answer_of, star_T, e, a0, endR]
end GL
/-! GL part 25: the laws' own numbers and rows (trees, drifts). -/
namespace GL
open PySem L2
noncomputable def P_wl__law_ratio_1 : MS := sPar 2 3 (lCons (eLv 3) (lCons (eBin .Mod (eLv 2) (eLv 3)) (lNil)))
noncomputable def P_wt__law_ratio_2 : MT := tV (eCmp .NotEq (eLv 3) (eC (.int 0)))
noncomputable def P_b__law_ratio : MS := sSeq (sPar 2 3 (lCons (eBi oAbs (lCons (eLv 0) (lNil))) (lCons (eLv 1) (lNil)))) (sSeq (sWhile (P_wt__law_ratio_2) (P_wl__law_ratio_1)) (sRet (eTup (lCons (eBin .FloorDiv (eLv 0) (eLv 2)) (lCons (eBin .FloorDiv (eLv 1) (eLv 2)) (lNil))))))
noncomputable def P_b__law_less : MS := sRet (eCmp .Lt (eBin .Mult (eSub (eLv 0) (eC (.int 0))) (eSub (eLv 1) (eC (.int 1)))) (eBin .Mult (eSub (eLv 1) (eC (.int 0))) (eSub (eLv 0) (eC (.int 1)))))
noncomputable def P_b__law_number (c__law_take : FM) (c__law_ratio : FM) : MS := sSeq (sSet 1 (eCall c__law_take 2 0 [0, 1] [] (lCons (eLv 0) (lCons (eC (.int 8)) (lNil))) (lNil))) (sSeq (sIf (tV (eCmp .Eq (eLv 1) (eC (.int 0)))) (sRet (eC .non)) (sSkip)) (sSeq (sIf (tV (eCmp .Lt (eLv 1) (eC (.int 5)))) (sRet (eSub (eNew (fLst (lCons (eTup (lCons (eC (.int 0)) (lCons (eC (.int 1)) (lNil)))) (lCons (eTup (lCons (eC (.int 1)) (lCons (eC (.int 1)) (lNil)))) (lCons (eTup (lCons (eNeg (eC (.int 1))) (lCons (eC (.int 1)) (lNil)))) (lCons (eTup (lCons (eC (.int 1)) (lCons (eC (.int 2)) (lNil)))) (lCons (eTup (lCons (eC (.int 3)) (lCons (eC (.int 2)) (lNil)))) (lCons (eTup (lCons (eNeg (eC (.int 2))) (lCons (eC (.int 1)) (lNil)))) (lCons (eTup (lCons (eC (.int 2)) (lCons (eC (.int 1)) (lNil)))) (lNil)))))))))) (eCall c__law_take 2 0 [0, 1] [] (lCons (eLv 0) (lCons (eC (.int 7)) (lNil))) (lNil)))) (sSkip)) (sRet (eCall c__law_ratio 2 0 [0, 1] [] (lCons (eBin .Sub (eCall c__law_take 2 0 [0, 1] [] (lCons (eLv 0) (lCons (eSub (eNew (fLst (lCons (eC (.int 21)) (lCons (eC (.int 2001)) (lCons (eBin .Add (eBin .Mult (eC (.int 2)) (eBin .Pow (eC (.int 10)) (eC (.int 6)))) (eC (.int 1))) (lNil)))))) (eBin .Sub (eLv 1) (eC (.int 5)))) (lNil))) (lNil)) (eSub (eNew (fLst (lCons (eC (.int 10)) (lCons (eC (.int 1000)) (lCons (eBin .Pow (eC (.int 10)) (eC (.int 6))) (lNil)))))) (eBin .Sub (eLv 1) (eC (.int 5))))) (lCons (eBin .Add (eC (.int 1)) (eCall c__law_take 2 0 [0, 1] [] (lCons (eLv 0) (lCons (eC (.int 40)) (lNil))) (lNil))) (lNil))) (lNil)))))
noncomputable def P_ce__law_rows_1 (c__law_number : FM) : ME := eCall c__law_number 1 0 [0] [] (lCons (eLv 0) (lNil)) (lNil)
noncomputable def P_lp__law_rows_2 (c__law_take : FM) (c__law_less : FM) (c__law_number : FM) : MS := sSeq (sSet 6 (eBi oTuple (lCons (eNew (lComp (iRange1 (eLv 2)) (gNm 8) (tTrue) (P_ce__law_rows_1 c__law_number) [8])) (lNil)))) (sSeq (sSet 7 (eSub (eNew (fLst (lCons (eCall c__law_take 2 0 [0, 1] [] (lCons (eLv 0) (lCons (eC (.int 3)) (lNil))) (lNil)) (lCons (eBin .Sub (eCall c__law_take 2 0 [0, 1] [] (lCons (eLv 0) (lCons (eC (.int 2001)) (lNil))) (lNil)) (eC (.int 1000))) (lCons (eCall c__law_take 2 0 [0, 1] [] (lCons (eLv 0) (lCons (eC (.int 3)) (lNil))) (lNil)) (lNil)))))) (eLv 3))) (sSeq (sIf (tAnd (tV (eCmp .Eq (eLv 3) (eC (.int 2)))) (tV (eCmp .IsNot (eSub (eLv 6) (eC (.int 0))) (eC .non)))) (sSet 7 (eBin .Add (eLv 7) (eBin .Mult (eC (.int 7)) (eBi oInt (lCons (eCall c__law_less 2 0 [0, 1] [] (lCons (eTup (lCons (eC (.int 0)) (lCons (eC (.int 1)) (lNil)))) (lCons (eSub (eLv 6) (eC (.int 0))) (lNil))) (lNil)) (lNil)))))) (sSkip)) (sOwnApp 4 (eTup (lCons (eLv 6) (lCons (eLv 7) (lNil)))))))
noncomputable def P_b__law_rows (c__law_take : FM) (c__law_less : FM) (c__law_number : FM) : MS := sSeq (sSet 2 (eSub (eNew (fLst (lCons (eBin .Add (eC (.int 1)) (eCall c__law_take 2 0 [0, 1] [] (lCons (eLv 0) (lCons (eC (.int 3)) (lNil))) (lNil))) (lCons (eC (.int 8)) (lNil))))) (eBi oInt (lCons (eCmp .Eq (eCall c__law_take 2 0 [0, 1] [] (lCons (eLv 0) (lCons (eC (.int 8)) (lNil))) (lNil)) (eC (.int 0))) (lNil))))) (sSeq (sParOwn 3 4 (eCall c__law_take 2 0 [0, 1] [] (lCons (eLv 0) (lCons (eC (.int 3)) (lNil))) (lNil)) (fLst (lNil))) (sSeq (sFor (iRange1 (eBin .Add (eC (.int 1)) (eCall c__law_take 2 0 [0, 1] [] (lCons (eLv 0) (lCons (eLv 1) (lNil))) (lNil)))) (gNm 5) (P_lp__law_rows_2 c__law_take c__law_less c__law_number)) (sFreeze 4 (sRet (eLv 4)))))
/-- a loop by what holds between two turns, counted -/
theorem forL_ix {tg : MG} {b : MS} (I : Nat → Env' → Gh → Prop) : ∀ (ds : List D) (j : Nat), (∀ i d, ds[i]? = some d → ∀ env g, I (j + i) env g → ∃ env1, tg d env = some env1 ∧ ∃ env2 g2, b env1 g = .nx env2 g2 ∧ I (j + i + 1) env2 g2) →
    ∀ env g, I j env g → ∃ env' g', forL none tg b ds env g = .nx env' g' ∧ I (j + ds.length) env' g'
  | [], j, _, env, g, h => ⟨env, g, forL_nil, h⟩
  | d :: ds, j, hb, env, g, h => by
    obtain ⟨env1, e1, env2, g2, e2, h2⟩ := hb 0 d rfl env g h
    obtain ⟨env', g', e3, h3⟩ := forL_ix I ds (j + 1) (fun i d' hd env g hi => by
      have := hb (i + 1) d' (by simpa using hd) env g (by rw [show j + (i + 1) = j + 1 + i by omega]; exact hi)
      rw [show j + (i + 1) + 1 = j + 1 + i + 1 by omega] at this
      exact this) env2 g2 h2
    refine ⟨env', g', ?_, by rw [List.length_cons, show j + (ds.length + 1) = j + 1 + ds.length by omega]; exact h3⟩
    rw [forL_cons, e1]
    simp only [e2]
    exact e3
/-! ### the law's ratio -/
def RatF (f : FM) : Prop := ∀ (a b : Int) (g : Gh), 0 < b → Bd 60 b → f [.int a, .int b] g = .ok (dR (Rat.divInt a b)) g
theorem rat_spec : RatF (mFun 2 4 P_b__law_ratio) := fun a b g h hb => by
  have lp : ∀ (n m : Nat), sWhile P_wt__law_ratio_2 P_wl__law_ratio_1 [.val (.int a), .val (.int b), .val (.int m), .val (.int n)] g = .nx [.val (.int a), .val (.int b), .val (.int (Nat.gcd m n)), .val (.int 0)] g := by
    intro n
    induction n using Nat.strongRecOn with
    | ind n ih =>
      intro m
      rw [sWhile_eq]
      by_cases h0 : n = 0
      · subst h0
        simp [P_wt__law_ratio_2]
      · have e0 : ¬ (n : Int) = 0 := by omega
        have hlt : m % n < n := Nat.mod_lt _ (by omega)
        have := ih (m % n) hlt n
        simp [P_wt__law_ratio_2, P_wl__law_ratio_1, e0, h0, fmod_nat, -Int.natCast_emod] at this ⊢
        rw [this, Nat.gcd_comm n (m % n), ← Nat.gcd_rec n m, Nat.gcd_comm n m]
  have hb0 : b ≠ 0 := by omega
  have hp := gcd_pos (a := a) hb0
  have e1 := lp b.natAbs a.natAbs
  have eb : (b.natAbs : Int) = b := by omega
  have ea : (a.natAbs : Int) = if a < 0 then -a else a := (abs_if a).symm
  rw [ea, eb] at e1
  have d1 : divOk ((a.natAbs.gcd b.natAbs : Nat) : Int) = true := divOk_bd (b := 60) (show ((Int.gcd a b : Nat) : Int) ≠ 0 by omega) (bd_gcd hb0 hb) (by decide) (by decide)
  have fd : ∀ z : Int, z.fdiv ((a.natAbs.gcd b.natAbs : Nat) : Int) = z / (Int.gcd a b : Int) := fun z => Int.fdiv_eq_ediv_of_nonneg _ (by omega)
  have hn : ¬ b < 0 := by omega
  rw [← low_rat hb0]
  simp [mFun, P_b__law_ratio, e1, d1, fd, lim2, endR, lowT, lowU, hn]
def LessF (k : Nat) (f : FM) : Prop := ∀ (r s : Rat) (g : Gh), Sz k r → Sz k s → f [dR r, dR s] g = .ok (.bl (decide (r < s))) g
theorem less_spec {k : Nat} (k0 : 0 < k) (k8 : k ≤ 8000) : LessF k (mFun 2 2 P_b__law_less) := fun r s g hr hs => by
  have m1 := mm k0 k8 hr.1 hs.2
  have m2 := mm k0 k8 hs.1 hr.2
  have e1 : decide (r.num * (s.den : Int) < s.num * (r.den : Int)) = decide (r < s) := decide_eq_decide.mpr (Rat.lt_iff r s).symm
  simp [mFun, P_b__law_less, m1, m2, e1, endR]
theorem dR_lit {a b : Int} (hb : 0 < b) (h : Int.gcd a b = 1) : D.tup [.int a, .int b] = dR (Rat.divInt a b) := by
  rw [← low_rat (by omega)]
  have hn : ¬ b < 0 := by omega
  simp [lowT, lowU, hn, h]
def NumF (f : FM) : Prop := ∀ (n : Nat) (g : Gh), HasBag n g → ∃ x g', SzN 40 x ∧ HasBag n g' ∧ f [.loc n] g = .ok (dN x) g'
theorem num_spec {tk rt : FM} (ht : TakeF tk) (hr : RatF rt) : NumF (mFun 1 2 (P_b__law_number tk rt)) := fun n g hb => by
  obtain ⟨r1, g1, hr1, ⟨hb1, _⟩, e1⟩ := ht n g 8 hb (by decide) (by decide)
  have p6 : powOk 10 6 = true := powOk_bd (by decide) (by decide) (by decide)
  have m2 : mulOk 2 1000000 = true := mulOk_left (by decide)
  by_cases h0 : r1 = 0
  · refine ⟨none, g1, szN_none, hb1, ?_⟩
    simp [dN, mFun, P_b__law_number, permL, e1, h0, endR]
  by_cases h5 : r1 < 5
  · obtain ⟨r2, g2, hr2, ⟨hb2, _⟩, e2⟩ := ht n g1 7 hb1 (by decide) (by decide)
    obtain ⟨a, b, ha, hb0, hg, hat⟩ : ∃ a b : Int, (Bd 40 a ∧ Bd 40 b) ∧ 0 < b ∧ Int.gcd a b = 1 ∧ atI [D.tup [.int 0, .int 1], .tup [.int 1, .int 1], .tup [.int (-1), .int 1], .tup [.int 1, .int 2], .tup [.int 3, .int 2], .tup [.int (-2), .int 1], .tup [.int 2, .int 1]] r2 = some (.tup [.int a, .int b]) := by
      have : r2 = 0 ∨ r2 = 1 ∨ r2 = 2 ∨ r2 = 3 ∨ r2 = 4 ∨ r2 = 5 ∨ r2 = 6 := by omega
      rcases this with rfl | rfl | rfl | rfl | rfl | rfl | rfl <;> exact ⟨_, _, ⟨by decide, by decide⟩, by decide, by decide, rfl⟩
    refine ⟨some (Rat.divInt a b), g2, szN_some (.div (by omega) ha.1 ha.2), hb2, ?_⟩
    have lim7 : (7 : Nat) ≤ LIM := by decide
    rw [show dN (some (Rat.divInt a b)) = .tup [.int a, .int b] from (dR_lit hb0 hg).symm]
    simp [mFun, P_b__law_number, permL, e1, h0, h5, e2, lim2, lim7, hat, endR]
  obtain ⟨w, far, hw0, hw1, hw2, a1, a2⟩ : ∃ w far : Int, 0 < w ∧ w ≤ 2000001 ∧ (10 ≤ far ∧ far ≤ 1000000) ∧ atI [D.int 21, .int 2001, .int 2000001] (r1 - 5) = some (.int w) ∧ atI [D.int 10, .int 1000, .int 1000000] (r1 - 5) = some (.int far) := by
    have : r1 - 5 = 0 ∨ r1 - 5 = 1 ∨ r1 - 5 = 2 := by omega
    rcases this with e | e | e <;> rw [e] <;> exact ⟨_, _, by decide, by decide, ⟨by decide, by decide⟩, rfl, rfl⟩
  obtain ⟨r2, g2, hr2, ⟨hb2, _⟩, e2⟩ := ht n g1 w hb1 hw0 (bd_of (by omega))
  obtain ⟨r3, g3, hr3, ⟨hb3, _⟩, e3⟩ := ht n g2 40 hb2 (by decide) (by decide)
  have e4 := hr (r2 - far) (1 + r3) g3 (by omega) (bd_of (by omega))
  refine ⟨some (Rat.divInt (r2 - far) (1 + r3)), g3, szN_some (.div (by omega) (bd_of (by omega)) (bd_of (by omega))), hb3, ?_⟩
  simp [dN, mFun, P_b__law_number, permL, e1, h0, h5, e2, lim3, p6, m2, a1, a2, e3, e4, endR]
theorem oTuple_lst {xs : List D} {g : Gh} (h : xs.length ≤ LIM) : oTuple [.lst xs] g = .ok (.tup xs) g := by
  simp [oTuple, seqD]
theorem rangeD_len (lo : Int) (n : Nat) : (rangeD lo n).length = n := by simp [rangeD]
/-! ### the law's rows -/
def RwsF (f : FM) : Prop := ∀ (n most : Nat) (g : Gh), HasBag n g → 0 < most → most ≤ 50 → ∃ (rows : List Row) (cols : Nat) (g' : Gh), (1 ≤ cols ∧ cols ≤ 8) ∧ RowsOk 40 cols most rows ∧ rows ≠ [] ∧ HasBag n g' ∧ f [.loc n, .int most] g = .ok (dRows rows) g'
theorem rws_spec {tk ls nm : FM} (ht : TakeF tk) (hl : LessF 40 ls) (hn : NumF nm) : RwsF (mFun 2 9 (P_b__law_rows tk ls nm)) := fun n most g hb hm0 hm1 => by
  obtain ⟨r1, g1, hr1, ⟨hb1, _⟩, e1⟩ := ht n g 3 hb (by decide) (by decide)
  obtain ⟨r2, g2, hr2, ⟨hb2, _⟩, e2⟩ := ht n g1 8 hb1 (by decide) (by decide)
  obtain ⟨r3, g3, hr3, ⟨hb3, _⟩, e3⟩ := ht n g2 3 hb2 (by decide) (by decide)
  obtain ⟨r4, g4, hr4, ⟨hb4, _⟩, e4⟩ := ht n g3 most hb3 (by omega) (bd_of (by omega))
  obtain ⟨cols, hc0, hc1, hcol⟩ : ∃ cols : Nat, 1 ≤ cols ∧ cols ≤ 8 ∧ atI [D.int (1 + r1), .int 8] (if r2 = 0 then 1 else 0) = some (.int cols) := by
    by_cases h : r2 = 0
    · rw [if_pos h]; exact ⟨8, by decide, by decide, rfl⟩
    · rw [if_neg h]; exact ⟨(1 + r1).toNat, by omega, by omega, by show some (D.int (1 + r1)) = _; rw [show ((1 + r1).toNat : Int) = 1 + r1 by omega]⟩
  have m7 : ∀ z : Int, mulOk 7 z = true := fun z => mulOk_left (by decide)
  have rc : rngOk (cols : Int) = true := rng_nat (by omega)
  have turn : ∀ (rows : List Row) (g : Gh) (s5 s6 s7 s8 : Sl), HasBag n g → rows.length ≤ 50 → ∃ (row : Row) (g' : Gh) (y6 y7 : Sl), NsOk 40 cols row.1 ∧ Bd 20 row.2 ∧ HasBag n g' ∧ P_lp__law_rows_2 tk ls nm [.val (.loc n), .val (.int most), .val (.int cols), .val (.int r3), .own (rows.map dRow), s5, s6, s7, s8] g = .nx [.val (.loc n), .val (.int most), .val (.int cols), .val (.int r3), .own ((rows ++ [row]).map dRow), s5, y6, y7, s8] g' := fun rows g s5 s6 s7 s8 hb hlen => by
    obtain ⟨xs, g1, lx, hxs, hb1, e1⟩ := comp_num (it := iRange1 (eLv 2)) (i := 8) (e := P_ce__law_rows_1 nm) (env := [.val (.loc n), .val (.int most), .val (.int cols), .val (.int r3), .own (rows.map dRow), s5, s6, s7, s8]) (ds := rangeD 0 cols) hb (by simp [rc]) (by rw [rangeD_len]; exact Nat.le_trans hc1 (by decide)) (SzN 40) (fun d _ g hg => by
      obtain ⟨x, g', hx, hg', e⟩ := hn n g hg
      exact ⟨x, g', hx, hg', by simp [P_ce__law_rows_1, blkE, wipeE, permL, e]⟩)
    rw [rangeD_len] at lx
    obtain ⟨q1, g2, hq1, ⟨hb2, _⟩, e2⟩ := ht n g1 3 hb1 (by decide) (by decide)
    obtain ⟨q2, g3, hq2, ⟨hb3, _⟩, e3⟩ := ht n g2 2001 hb2 (by decide) (by decide)
    obtain ⟨q3, g4, hq3, ⟨hb4, _⟩, e4⟩ := ht n g3 3 hb3 (by decide) (by decide)
    obtain ⟨lab, hl0, hl1, hlab⟩ : ∃ lab : Int, -1000 ≤ lab ∧ lab ≤ 1000 ∧ atI [D.int q1, .int (q2 - 1000), .int q3] r3 = some (.int lab) := by
      have : r3 = 0 ∨ r3 = 1 ∨ r3 = 2 := by omega
      rcases this with e | e | e <;> rw [e]
      · exact ⟨q1, by omega, by omega, rfl⟩
      · exact ⟨q2 - 1000, by omega, by omega, rfl⟩
      · exact ⟨q3, by omega, by omega, rfl⟩
    have tup : oTuple [.lst (xs.map dN)] g1 = .ok (.tup (xs.map dN)) g1 := oTuple_lst (by rw [List.length_map, lx]; exact Nat.le_trans hc1 (by decide))
    have hx0 : 0 < xs.length := by omega
    have a0 : atI (xs.map dN) 0 = some (dN xs[0]) := by
      have := atI_nat (l := xs.map dN) (i := 0) (by simpa using hx0)
      simpa using this
    have hlen' : rows.length < LIM := Nat.lt_of_le_of_lt hlen (by decide)
    have fin : ∀ (l2 : Int), Bd 20 l2 → (∀ s5 s7 s8 : Sl, ∃ y7 : Sl, (sSeq (sIf (tAnd (tV (eCmp .Eq (eLv 3) (eC (.int 2)))) (tV (eCmp .IsNot (eSub (eLv 6) (eC (.int 0))) (eC .non)))) (sSet 7 (eBin .Add (eLv 7) (eBin .Mult (eC (.int 7)) (eBi oInt (lCons (eCall ls 2 0 [0, 1] [] (lCons (eTup (lCons (eC (.int 0)) (lCons (eC (.int 1)) (lNil)))) (lCons (eSub (eLv 6) (eC (.int 0))) (lNil))) (lNil)) (lNil)))))) (sSkip)) (sOwnApp 4 (eTup (lCons (eLv 6) (lCons (eLv 7) (lNil)))))) [.val (.loc n), .val (.int most), .val (.int cols), .val (.int r3), .own (rows.map dRow), s5, .val (.tup (xs.map dN)), .val (.int lab), s8] g4 = .nx [.val (.loc n), .val (.int most), .val (.int cols), .val (.int r3), .own ((rows ++ [(xs, l2)]).map dRow), s5, .val (.tup (xs.map dN)), y7, s8] g4) →
        ∃ (row : Row) (g' : Gh) (y6 y7 : Sl), NsOk 40 cols row.1 ∧ Bd 20 row.2 ∧ HasBag n g' ∧ P_lp__law_rows_2 tk ls nm [.val (.loc n), .val (.int most), .val (.int cols), .val (.int r3), .own (rows.map dRow), s5, s6, s7, s8] g = .nx [.val (.loc n), .val (.int most), .val (.int cols), .val (.int r3), .own ((rows ++ [row]).map dRow), s5, y6, y7, s8] g' := fun l2 hl2 hrest => by
      obtain ⟨y7, er⟩ := hrest s5 s7 s8
      refine ⟨(xs, l2), g4, .val (.tup (xs.map dN)), y7, ⟨lx, hxs⟩, hl2, hb4, ?_⟩
      unfold P_lp__law_rows_2
      generalize (sSeq (sIf (tAnd (tV (eCmp .Eq (eLv 3) (eC (.int 2)))) (tV (eCmp .IsNot (eSub (eLv 6) (eC (.int 0))) (eC .non)))) (sSet 7 (eBin .Add (eLv 7) (eBin .Mult (eC (.int 7)) (eBi oInt (lCons (eCall ls 2 0 [0, 1] [] (lCons (eTup (lCons (eC (.int 0)) (lCons (eC (.int 1)) (lNil)))) (lCons (eSub (eLv 6) (eC (.int 0))) (lNil))) (lNil)) (lNil)))))) (sSkip)) (sOwnApp 4 (eTup (lCons (eLv 6) (lCons (eLv 7) (lNil)))))) = RST at *
      generalize eNew (lComp (iRange1 (eLv 2)) (gNm 8) (tTrue) (P_ce__law_rows_1 nm) [8]) = CE at *
      simp [e1, tup, permL, e2, e3, e4, lim3, hlab, er]
    by_cases hw : r3 = 2
    · cases hv : xs[0] with
      | none =>
        rw [hv] at a0
        refine fin lab (bd_of (by omega)) fun s5 s7 s8 => ⟨.val (.int lab), ?_⟩
        simp only [dN] at a0
        simp [hw, a0, lim2, hlen', dRow, dNs]
      | some r =>
        rw [hv] at a0
        have hr : Sz 40 r := hxs xs[0] (List.getElem_mem hx0) r hv
        have el := hl 0 r g4 ⟨(by decide : Bd 2 0).mono (by decide), (by decide : Bd 2 1).mono (by decide)⟩ hr
        have z0 : D.tup [.int 0, .int 1] = dR 0 := rfl
        refine fin (lab + 7 * (if (0 : Rat) < r then 1 else 0)) (bd_of (by split <;> omega)) fun s5 s7 s8 => ⟨.val (.int (lab + 7 * (if (0 : Rat) < r then 1 else 0))), ?_⟩
        simp only [dN] at a0
        simp [hw, a0, lim2, hlen', dRow, dNs, permL, z0, el, m7]
    · refine fin lab (bd_of (by omega)) fun s5 s7 s8 => ⟨.val (.int lab), ?_⟩
      simp [hw, lim2, hlen', dRow, dNs]
  obtain ⟨env', g', e, rows, s5, s6, s7, s8, rfl, hrl, hro, hb'⟩ := forL_ix (tg := gNm 5) (b := P_lp__law_rows_2 tk ls nm) (fun i env g => ∃ (rows : List Row) (s5 s6 s7 s8 : Sl), env = [.val (.loc n), .val (.int most), .val (.int cols), .val (.int r3), .own (rows.map dRow), s5, s6, s7, s8] ∧ rows.length = i ∧ (∀ r ∈ rows, NsOk 40 cols r.1 ∧ Bd 20 r.2) ∧ HasBag n g) (rangeD 0 (1 + r4).toNat) 0 (by
    rintro i d hd env g ⟨rows, s5, s6, s7, s8, rfl, hrl, hro, hb⟩
    have hi : i < (1 + r4).toNat := by
      have := (List.getElem?_eq_some_iff.mp hd).1
      rw [rangeD_len] at this; exact this
    obtain ⟨row, g', y6, y7, h1, h2, h3, h4⟩ := turn rows g (.val d) s6 s7 s8 hb (by omega)
    refine ⟨_, rfl, _, g', h4, rows ++ [row], _, _, _, _, rfl, by simp [hrl], fun r hr => ?_, h3⟩
    rcases List.mem_append.mp hr with hr | hr
    · exact hro r hr
    · simp at hr; subst hr; exact ⟨h1, h2⟩) [.val (.loc n), .val (.int most), .val (.int cols), .val (.int r3), .own [], .un, .un, .un, .un] g4 ⟨[], _, _, _, _, rfl, rfl, (fun _ q => nomatch q), hb4⟩
  rw [rangeD_len] at hrl
  have r1r : rngOk (1 + r4) = true := rng_in (by omega) (by omega)
  refine ⟨rows, cols, g', ⟨hc0, hc1⟩, ⟨by omega, hro⟩, fun e => by rw [e] at hrl; simp at hrl; omega, hb', ?_⟩
  have hif : ∀ g : Gh, (if r2 = 0 then R.ok (D.int 1) g else R.ok (D.int 0) g) = R.ok (D.int (if r2 = 0 then 1 else 0)) g := fun g => by split <;> rfl
  simp [mFun, P_b__law_rows, sParOwn, permL, e1, e2, e3, e4, lim2, hcol, r1r, e, endR, dRows]
end GL
/-! GL part 28: trees as the laws go through them. -/
namespace GL
open PySem L2
noncomputable def P_ce__law_spread_1 : ME := eBin .Mult (eLv 1) (eLv 1)
noncomputable def P_b__law_spread : MS := sSeq (sIf (tV (eCmp .Eq (eLv 0) (eNew (fLst (lNil))))) (sRet (eTup (lCons (eC (.int 0)) (lCons (eC (.int 1)) (lNil))))) (sSkip)) (sRet (eTup (lCons (eBin .Sub (eBin .Mult (eBi oLen (lCons (eLv 0) (lNil))) (eBi oSum (lCons (eNew (lComp (iV (eLv 0)) (gNm 1) (tTrue) (P_ce__law_spread_1) [1])) (lNil)))) (eBin .Pow (eBi oSum (lCons (eLv 0) (lNil))) (eC (.int 2)))) (lCons (eBi oLen (lCons (eLv 0) (lNil))) (lNil)))))
noncomputable def P_b__law_both : MS := sRet (eTup (lCons (eBin .Add (eBin .Mult (eSub (eLv 0) (eC (.int 0))) (eSub (eLv 1) (eC (.int 1)))) (eBin .Mult (eSub (eLv 1) (eC (.int 0))) (eSub (eLv 0) (eC (.int 1))))) (lCons (eBin .Mult (eSub (eLv 0) (eC (.int 1))) (eSub (eLv 1) (eC (.int 1)))) (lNil))))
noncomputable def P_ce__law_cuts_1 : ME := eLv 3
noncomputable def P_ct__law_cuts_2 (c__law_less : FM) : MT := tV (eCall c__law_less 2 0 [0, 1] [] (lCons (eLv 3) (lCons (eLv 2) (lNil))) (lNil))
noncomputable def P_lp__law_cuts_3 (c__law_less : FM) : MS := sIf (tAnd (tV (eCmp .IsNot (eLv 2) (eC .non))) (tBor 1 (tV (eCmp .NotIn (eLv 2) (eLv 1))))) (sOwnIns 1 (eBor 1 (eBi oLen (lCons (eNew (lComp (iV (eLv 1)) (gNm 3) (P_ct__law_cuts_2 c__law_less) (P_ce__law_cuts_1) [3])) (lNil)))) (eLv 2)) (sSkip)
noncomputable def P_b__law_cuts (c__law_less : FM) : MS := sSeq (sSetOwn 1 (fLst (lNil))) (sSeq (sFor (iV (eLv 0)) (gNm 2) (P_lp__law_cuts_3 c__law_less)) (sFreeze 1 (sRet (eLv 1))))
noncomputable def P_lp__law_sides_1 (c__law_less : FM) : MS := sSeq (sSet 7 (eAnd (eCmp .IsNot (eSub (eLv 5) (eLv 1)) (eC .non)) (eNot (tV (eCall c__law_less 2 0 [0, 1] [] (lCons (eLv 2) (lCons (eSub (eLv 5) (eLv 1)) (lNil))) (lNil)))))) (sPickApp 4 3 (eBi oInt (lCons (eLv 7) (lNil))) (eTup (lCons (eLv 5) (lCons (eLv 6) (lNil)))))
noncomputable def P_b__law_sides (c__law_less : FM) : MS := sSeq (sParOwn2 3 4 (fLst (lNil)) (fLst (lNil))) (sSeq (sFor (iV (eLv 0)) (gTp 2 (gsCons (gNm 5) (gsCons (gNm 6) (gsNil)))) (P_lp__law_sides_1 c__law_less)) (sFreeze 3 (sFreeze 4 (sRet (eTup (lCons (eLv 3) (lCons (eLv 4) (lNil))))))))
noncomputable def P_ce__law_labels_1 : ME := eLv 2
noncomputable def P_b__law_labels : MS := sRet (eNew (lComp (iV (eLv 0)) (gTp 2 (gsCons (gNm 1) (gsCons (gNm 2) (gsNil)))) (tTrue) (P_ce__law_labels_1) [1, 2]))
noncomputable def P_ce__law_tree_1 : ME := eSub (eLv 10) (eLv 5)
noncomputable def P_lp__law_tree_2 (c__law_less : FM) (c__law_spread : FM) (c__law_both : FM) (c__law_sides : FM) (c__law_labels : FM) : MS := sSeq (sAsg (eCall c__law_sides 3 0 [0, 1, 2] [] (lCons (eLv 0) (lCons (eLv 5) (lCons (eLv 6) (lNil)))) (lNil)) (gSq 2 (gsCons (gNm 7) (gsCons (gNm 8) (gsNil))))) (sSeq (sSet 9 (eCall c__law_both 2 0 [0, 1] [] (lCons (eCall c__law_spread 1 0 [0] [] (lCons (eCall c__law_labels 1 0 [0] [] (lCons (eLv 7) (lNil)) (lNil)) (lNil)) (lNil)) (lCons (eCall c__law_spread 1 0 [0] [] (lCons (eCall c__law_labels 1 0 [0] [] (lCons (eLv 8) (lNil)) (lNil)) (lNil)) (lNil)) (lNil))) (lNil))) (sIf (tAnd (tV (eCmp .NotEq (eLv 8) (eNew (fLst (lNil))))) (tV (eCall c__law_less 2 0 [0, 1] [] (lCons (eLv 9) (lCons (eLv 4) (lNil))) (lNil)))) (sPar 4 3 (lCons (eLv 9) (lCons (eTup (lCons (eLv 5) (lCons (eLv 6) (lNil)))) (lNil)))) (sSkip)))
noncomputable def P_lp__law_tree_3 (c__law_less : FM) (c__law_spread : FM) (c__law_both : FM) (c__law_cuts : FM) (c__law_sides : FM) (c__law_labels : FM) : MS := sFor (iV (eCall c__law_cuts 1 0 [0] [] (lCons (eNew (lComp (iV (eLv 0)) (gTp 2 (gsCons (gNm 10) (gsCons (gNm 11) (gsNil)))) (tTrue) (P_ce__law_tree_1) [10, 11])) (lNil)) (lNil))) (gNm 6) (P_lp__law_tree_2 c__law_less c__law_spread c__law_both c__law_sides c__law_labels)
noncomputable def P_b__law_tree (c__law_ratio : FM) (c__law_less : FM) (c__law_spread : FM) (c__law_both : FM) (c__law_cuts : FM) (c__law_sides : FM) (c__law_labels : FM) (c__law_tree : FM) : MS := sSeq (sPar 2 3 (lCons (eCall c__law_labels 1 0 [0] [] (lCons (eLv 0) (lNil)) (lNil)) (lCons (eC .non) (lNil)))) (sSeq (sSet 4 (eCall c__law_spread 1 0 [0] [] (lCons (eLv 2) (lNil)) (lNil))) (sSeq (sFor (iRange1 (eBin .Mult (eBi oLen (lCons (eSub (eSub (eLv 0) (eC (.int 0))) (eC (.int 0))) (lNil))) (eBi oInt (lCons (eCmp .Gt (eLv 1) (eC (.int 0))) (lNil))))) (gNm 5) (P_lp__law_tree_3 c__law_less c__law_spread c__law_both c__law_cuts c__law_sides c__law_labels)) (sSeq (sIf (tV (eCmp .Is (eLv 3) (eC .non))) (sRet (eTup (lCons (eC (.str "leaf")) (lCons (eCall c__law_ratio 2 0 [0, 1] [] (lCons (eBi oSum (lCons (eLv 2) (lNil))) (lCons (eBi oLen (lCons (eLv 2) (lNil))) (lNil))) (lNil)) (lNil))))) (sSkip)) (sSeq (sAsg (eCall c__law_sides 3 0 [0, 1, 2] [] (lCons (eLv 0) (lCons (eSub (eLv 3) (eC (.int 0))) (lCons (eSub (eLv 3) (eC (.int 1))) (lNil)))) (lNil)) (gSq 2 (gsCons (gNm 7) (gsCons (gNm 8) (gsNil))))) (sRet (eBin .Add (eBin .Add (eTup (lCons (eC (.str "test")) (lNil))) (eLv 3)) (eTup (lCons (eCall c__law_tree 2 0 [0, 1] [] (lCons (eLv 7) (lCons (eBin .Sub (eLv 1) (eC (.int 1))) (lNil))) (lNil)) (lCons (eCall c__law_tree 2 0 [0, 1] [] (lCons (eLv 8) (lCons (eBin .Sub (eLv 1) (eC (.int 1))) (lNil))) (lNil)) (lNil))))))))))
theorem cuts_spec {k : Nat} {h : FM} (hh : LessF k h) : RiseF k (mFun 1 4 (P_b__law_cuts h)) := fun xs g hl hx => by
  have key := forL_foldP (tg := gNm 2) (b := P_lp__law_cuts_3 h) (g := g) dN riseS ([] : List Rat) (fun acc env => ∃ s2 s3, env = [.val (.lst (xs.map dN)), .own (acc.map dR), s2, s3]) xs (fun pre x post hp env hR => by
    obtain ⟨s2, s3, rfl⟩ := hR
    have hacc : ∀ r ∈ pre.foldl riseS [], Sz k r := fun r hr => by
      have := (rise_fold_mem pre [] (r := r)).mp hr
      simp at this
      exact hx _ (by rw [hp]; simp [this]) r rfl
    have hal : (pre.foldl riseS []).length < LIM := by
      have h1 := rise_len pre []
      have h2 : xs.length = pre.length + (post.length + 1) := by rw [hp]; simp
      have h3 : (10000 : Nat) < LIM := by decide
      simp at h1
      omega
    generalize pre.foldl riseS [] = acc at *
    cases x with
    | none =>
      refine ⟨_, rfl, [.val (.lst (xs.map dN)), .own (acc.map dR), .val (dN none), s3], ?_, _, _, rfl⟩
      simp [P_lp__law_cuts_3, dN]
    | some r =>
      have hr : Sz k r := hx (some r) (by rw [hp]; simp) r rfl
      have fr : frDs (acc.map dR) = true := frDs_map frD_dR acc
      have hid : ∀ s0 s3 : Sl, hidE [s0, .own (acc.map dR), .val (dR r), s3] 1 (acc.map dR) = [hidS s0, .val (.lst (acc.map dR)), .val (dR r), hidS s3] := fun _ _ => rfl
      have nin : cmpop .NotIn (dR r) (.lst (acc.map dR)) [] = .ok (.bl (!decide (r ∈ acc))) [] := by
        show notR (guardR (okD (dR r) 64 && okD (.lst (acc.map dR)) 64) (.bl (memD (dR r) (acc.map dR))) []) = _
        have ok2 : okD (.lst (acc.map dR)) 64 = true := by
          show okDs (acc.map dR) 63 = true
          exact okDs_map (fun x => okD_dR x 62) acc
        rw [okD_dR, ok2, memD_dR]; rfl
      by_cases hm : r ∈ acc
      · refine ⟨_, rfl, [.val (.lst (xs.map dN)), .own (acc.map dR), .val (dR r), s3], ?_, .val (dR r), s3, ?_⟩
        · simp [P_lp__law_cuts_3, dN, fr, hid, nin, hm]
        · rw [show riseS acc (some r) = acc by simp [riseS, hm]]
      · have lenc : (acc.filter fun a => decide (a < r)).length ≤ LIM := Nat.le_trans (List.length_filter_le _ _) (Nat.le_of_lt hal)
        have c := compL_mapT (tg := gNm 3) (t := P_ct__law_cuts_2 h) (el := P_ce__law_cuts_1) (env := [hideS (hidS (.val (.lst (xs.map dN)))), .val (.lst (acc.map dR)), .val (dR r), .un]) (g := []) dR (fun a => decide (a < r)) dR acc (fun a ha => by
          refine ⟨_, rfl, ?_, fun _ => ?_⟩
          · have e := hh a r [] (hacc a ha) hr
            simp [P_ct__law_cuts_2, permL, e]
          · simp [P_ce__law_cuts_1])
        have j1 : insOk acc.length ((acc.filter fun a => decide (a < r)).length : Int) = true := ins_ok hal (by omega) (by
          have hL : (LIM : Nat) = 100000 := rfl
          omega)
        refine ⟨_, rfl, [.val (.lst (xs.map dN)), .own ((riseS acc (some r)).map dR), .val (dR r), s3], ?_, _, _, rfl⟩
        have e1 : (eBor 1 (eBi oLen (lCons (eNew (lComp (iV (eLv 1)) (gNm 3) (P_ct__law_cuts_2 h) (P_ce__law_cuts_1) [3])) (lNil)))) [.val (.lst (xs.map dN)), .own (acc.map dR), .val (dR r), s3] g = .ok (.int (acc.filter fun a => decide (a < r)).length) g := by
          simp only [eBor_ap, List.getElem?_cons_succ, List.getElem?_cons_zero, fr, if_true, hid]
          simp [blkE, wipeE, c, lenc, plD]
        have e2 : riseS acc (some r) = acc.take (acc.filter fun a => decide (a < r)).length ++ [r] ++ acc.drop (acc.filter fun a => decide (a < r)).length := by simp [riseS, hm]
        have hal' : (acc.map dR).length < LIM := by simpa using hal
        unfold P_lp__law_cuts_3
        generalize (eBor 1 (eBi oLen (lCons (eNew (lComp (iV (eLv 1)) (gNm 3) (P_ct__law_cuts_2 h) (P_ce__law_cuts_1) [3])) (lNil)))) = LE at *
        rw [e2]
        simp [dN, fr, hid, nin, hm, sOwnIns, e1, j1]) xs [] [.val (.lst (xs.map dN)), .own [], .un, .un] rfl ⟨_, _, rfl⟩
  obtain ⟨env', e, s2, s3, rfl⟩ := key
  simp only [mFun, P_b__law_cuts]
  simp [e, endR, riseR]

theorem dNs_deref {xs : List (Option Rat)} {g : Gh} : deref g (dNs xs) = dNs xs := rfl
/-- a ratio that need not be in lowest terms -/
def IsP (k : Nat) (r : Rat) (d : D) : Prop := ∃ t u : Int, d = .tup [.int t, .int u] ∧ 0 < u ∧ Bd k t ∧ Bd k u ∧ r = Rat.divInt t u
theorem IsP.mono {k l : Nat} {r : Rat} {d : D} (h : IsP k r d) (hl : k ≤ l) : IsP l r d := by
  obtain ⟨t, u, h1, h2, h3, h4, h5⟩ := h
  exact ⟨t, u, h1, h2, h3.mono hl, h4.mono hl, h5⟩
theorem divInt_le' {a b d : Int} (h : 0 < d) : Rat.divInt a d ≤ Rat.divInt b d ↔ a ≤ b := by
  have hd : d ≠ 0 := by omega
  rw [Rat.le_iff_sub_nonneg, Rat.divInt_sub_divInt _ _ hd hd, ← Int.sub_mul, Rat.divInt_mul_right hd, Rat.divInt_nonneg_iff_of_pos_right h]
  omega
theorem divInt_cross {a b c d : Int} (hb : 0 < b) (hd : 0 < d) : Rat.divInt a b < Rat.divInt c d ↔ a * d < c * b := by
  have e1 : Rat.divInt a b = Rat.divInt (a * d) (b * d) := (Rat.divInt_mul_right (by omega)).symm
  have e2 : Rat.divInt c d = Rat.divInt (c * b) (b * d) := by rw [Int.mul_comm b d]; exact (Rat.divInt_mul_right (by omega)).symm
  rw [e1, e2, ← Rat.not_le, divInt_le' (Int.mul_pos hb hd)]
  omega
def PLessF (k : Nat) (f : FM) : Prop := ∀ (r s : Rat) (d e : D) (g : Gh), IsP k r d → IsP k s e → f [d, e] g = .ok (.bl (decide (r < s))) g
theorem pless_spec {k : Nat} (k0 : 0 < k) (k8 : k ≤ 8000) : PLessF k (mFun 2 2 P_b__law_less) := fun r s d e g hr hs => by
  obtain ⟨t, u, rfl, hu, ht, hub, rfl⟩ := hr
  obtain ⟨t', u', rfl, hu', ht', hub', rfl⟩ := hs
  have m1 : mulOk t u' = true := mm k0 k8 ht hub'
  have m2 : mulOk t' u = true := mm k0 k8 ht' hub
  have a0 : ∀ x y : Int, atI [D.int x, D.int y] 0 = some (.int x) := fun _ _ => rfl
  have a1 : ∀ x y : Int, atI [D.int x, D.int y] 1 = some (.int y) := fun _ _ => rfl
  simp [mFun, P_b__law_less, m1, m2, a0, a1, endR, divInt_cross hu hu']
def PSpreadF (f : FM) : Prop := ∀ (ls : List Int) (g : Gh), LsOk ls → ∃ d, IsP 71 (spreadR ls) d ∧ f [.lst (ls.map D.int)] g = .ok d g
theorem okDs_ints (ls : List Int) (n : Nat) : okDs (ls.map D.int) n = true := okDs_map (fun x => rfl) ls
theorem pspread_spec : PSpreadF (mFun 1 2 P_b__law_spread) := fun ls g h => by
  have ok0 : okD (.lst []) 64 = true := rfl
  have okx : okD (.lst (ls.map D.int)) 64 = true := okDs_ints ls 63
  have nq : cmpop .Eq (.lst (ls.map D.int)) (.lst []) g = .ok (.bl (decide (ls = []))) g := by
    rw [eq_ap, okD_deref okx, okD_deref ok0, okE_ok okx ok0]
    cases ls with
    | nil => rfl
    | cons z zs => simp [eqD, eqDs]
  by_cases h0 : ls = []
  · subst h0
    refine ⟨.tup [.int 0, .int 1], ⟨0, 1, rfl, by decide, by decide, by decide, by decide⟩, ?_⟩
    simp at nq
    simp [mFun, P_b__law_spread, nq, lim2, endR]
  · have hl : 0 < ls.length := List.length_pos_iff.mpr h0
    have cm := compL_mapT (tg := gNm 1) (t := tTrue) (el := P_ce__law_spread_1) (env := [.val (.lst (ls.map D.int)), .un]) (g := g) D.int (fun _ => true) (fun l => D.int (l * l)) ls (fun l hl => by
      refine ⟨_, rfl, rfl, fun _ => ?_⟩
      have := mulOk_left (j := l) ((h.2 l hl).mono (by decide : 20 ≤ 64))
      simp [P_ce__law_spread_1, this])
    have hf : ls.filter (fun _ => true) = ls := by simp
    rw [hf] at cm
    have em : (ls.map fun l => D.int (l * l)) = (ls.map fun l => l * l).map D.int := by rw [List.map_map]; rfl
    rw [em] at cm
    have hll : ls.length ≤ LIM := Nat.le_trans h.1 (by decide)
    have m1 : mulOk (ls.length : Int) (ls.map fun l => l * l).sum = true := mulOk_left (h.len.mono (by decide))
    have p1 : powOk ls.sum 2 = true := powOk_bd (by decide) (by decide) (h.sum.mono (by decide))
    have e2 : ls.sum ^ 2 = ls.sum * ls.sum := by rw [Int.pow_succ, Int.pow_succ, Int.pow_zero, Int.one_mul]
    refine ⟨.tup [.int (ls.length * (ls.map fun l => l * l).sum - ls.sum * ls.sum), .int ls.length], ⟨_, _, rfl, by omega, h.top, h.len.mono (by decide), ?_⟩, ?_⟩
    · unfold spreadR; rw [if_neg h0]
    · have es : oSum [.lst (ls.map (D.int ∘ fun l => l * l))] g = .ok (.int (ls.map fun l => l * l).sum) g := by rw [← List.map_map]; exact oSum_map _ _
      simp only [mFun, P_b__law_spread]
      simp [nq, h0, blkE, wipeE, hideS, cm, hll, es, m1, p1, e2, lim2, endR]
def PBothF (k : Nat) (f : FM) : Prop := ∀ (r s : Rat) (d e : D) (g : Gh), IsP k r d → IsP k s e → ∃ d', IsP (2 * k + 1) (r + s) d' ∧ f [d, e] g = .ok d' g
theorem pboth_spec {k : Nat} (k0 : 0 < k) (k8 : k ≤ 4000) : PBothF k (mFun 2 2 P_b__law_both) := fun r s d e g hr hs => by
  obtain ⟨t, u, rfl, hu, ht, hub, rfl⟩ := hr
  obtain ⟨t', u', rfl, hu', ht', hub', rfl⟩ := hs
  have m1 : mulOk t u' = true := mm k0 (by omega) ht hub'
  have m2 : mulOk t' u = true := mm k0 (by omega) ht' hub
  have m3 : mulOk u u' = true := mm k0 (by omega) hub hub'
  have a0 : ∀ x y : Int, atI [D.int x, D.int y] 0 = some (.int x) := fun _ _ => rfl
  have a1 : ∀ x y : Int, atI [D.int x, D.int y] 1 = some (.int y) := fun _ _ => rfl
  refine ⟨.tup [.int (t * u' + t' * u), .int (u * u')], ⟨_, _, rfl, Int.mul_pos hu hu', ((ht.mul hub').add (ht'.mul hub)).mono (by omega), (hub.mul hub').mono (by omega), ?_⟩, ?_⟩
  · exact Rat.divInt_add_divInt _ _ (by omega) (by omega)
  · simp [mFun, P_b__law_both, m1, m2, m3, a0, a1, lim2, endR]
theorem plab_spec : LabF (mFun 1 3 P_b__law_labels) := lab_spec
theorem sides_spec {k m : Nat} {ls : FM} (hl : LessF k ls) (hm : m ≤ 1000) : PartF k m (mFun 3 8 (P_b__law_sides ls)) := fun rows n c cut g hr hc hs => by
  let F : List Row × List Row → Row → List Row × List Row := fun p r => if isYes c cut r.1 then (p.1 ++ [r], p.2) else (p.1, p.2 ++ [r])
  have fold : ∀ (l : List Row) (p : List Row × List Row), l.foldl F p = (p.1 ++ l.filter (fun r => isYes c cut r.1), p.2 ++ l.filter (fun r => !isYes c cut r.1)) := fun l => by
    induction l with
    | nil => intro p; simp
    | cons r l ih =>
      intro p
      rw [List.foldl_cons, ih]
      by_cases q : isYes c cut r.1 = true
      · simp [F, q, List.filter_cons]
      · simp [F, q, List.filter_cons]
  have hL : (1000 : Nat) < LIM := by decide
  obtain ⟨env', e, s5, s6, s7, rfl⟩ := forL_foldP (tg := gTp 2 (gsCons (gNm 5) (gsCons (gNm 6) (gsNil)))) (b := P_lp__law_sides_1 ls) (g := g) dRow F (([], []) : List Row × List Row) (fun p env => ∃ s5 s6 s7, env = [.val (dRows rows), .val (.int c), .val (dR cut), .own (p.1.map dRow), .own (p.2.map dRow), s5, s6, s7]) rows (fun pre r post hp env hR => by
    obtain ⟨s5, s6, s7, rfl⟩ := hR
    have hrm : r ∈ rows := by rw [hp]; simp
    obtain ⟨⟨hn, hx⟩, _⟩ := hr.2 r hrm
    have hc' : c < r.1.length := by omega
    have hpl : pre.length ≤ 1000 := by
      have : rows.length = pre.length + (post.length + 1) := by rw [hp]; simp
      have := hr.1
      omega
    have l1 : (pre.foldl F ([], [])).1.length < LIM := by
      rw [fold]; simp only [List.nil_append]; exact Nat.lt_of_le_of_lt (Nat.le_trans (List.length_filter_le ..) hpl) hL
    have l2 : (pre.foldl F ([], [])).2.length < LIM := by
      rw [fold]; simp only [List.nil_append]; exact Nat.lt_of_le_of_lt (Nat.le_trans (List.length_filter_le ..) hpl) hL
    generalize pre.foldl F ([], []) = p at *
    have at1 : atI (r.1.map dN) (c : Int) = some (dN r.1[c]) := by
      have := atI_nat (l := r.1.map dN) (i := c) (by simpa using hc')
      simpa using this
    have hsub : ∀ g : Gh, subD (dNs r.1) (.int c) g = .ok (dN r.1[c]) g := fun g => by simp [dNs, at1]
    have hy : isYes c cut r.1 = match r.1[c] with | none => false | some x => decide (x ≤ cut) := by
      unfold isYes
      rw [List.getElem?_eq_getElem hc']
      cases r.1[c] <;> rfl
    have hxc := hx r.1[c] (List.getElem_mem hc')
    generalize r.1[c] = z at *
    have tv : (eAnd (eCmp .IsNot (eSub (eLv 5) (eLv 1)) (eC .non)) (eNot (tV (eCall ls 2 0 [0, 1] [] (lCons (eLv 2) (lCons (eSub (eLv 5) (eLv 1)) (lNil))) (lNil))))) [.val (dRows rows), .val (.int c), .val (dR cut), .own (p.1.map dRow), .own (p.2.map dRow), .val (dNs r.1), .val (.int r.2), s7] g = .ok (.bl (isYes c cut r.1)) g := by
      rw [hy]
      cases z with
      | none => simp [hsub, dNs_deref]
      | some x =>
        have e := hl cut x g hs (hxc x rfl)
        have nn : (!decide (cut < x)) = decide (x ≤ cut) := by
          by_cases q : cut < x
          · have : ¬ x ≤ cut := Rat.not_le.mpr q
            simp [q, this]
          · have : x ≤ cut := Rat.not_lt.mp q
            simp [q, this]
        simp [hsub, dNs_deref, permL, dN, e, nn]
    refine ⟨[.val (dRows rows), .val (.int c), .val (dR cut), .own (p.1.map dRow), .own (p.2.map dRow), .val (dNs r.1), .val (.int r.2), s7], by simp [dRow], ?_⟩
    refine ⟨[.val (dRows rows), .val (.int c), .val (dR cut), .own ((F p r).1.map dRow), .own ((F p r).2.map dRow), .val (dNs r.1), .val (.int r.2), .val (.bl (isYes c cut r.1))], ?_, _, _, _, rfl⟩
    unfold P_lp__law_sides_1
    generalize (eAnd (eCmp .IsNot (eSub (eLv 5) (eLv 1)) (eC .non)) (eNot (tV (eCall ls 2 0 [0, 1] [] (lCons (eLv 2) (lCons (eSub (eLv 5) (eLv 1)) (lNil))) (lNil))))) = TV at *
    by_cases q : isYes c cut r.1 = true
    · simp [tv, q, lim2, l1, l2, F, dRow]
    · have q : isYes c cut r.1 = false := by simpa using q
      simp [tv, q, lim2, l1, l2, F, dRow]) rows [] [.val (dRows rows), .val (.int c), .val (dR cut), .own [], .own [], .un, .un, .un] rfl ⟨_, _, _, rfl⟩
  have lim0 : (0 : Nat) ≤ LIM := by decide
  rw [fold] at e
  simp only [List.nil_append] at e
  have it : itemsD (dRows rows) g = .ok (rows.map dRow, none) g := rfl
  simp [mFun, P_b__law_sides, it, e, lim2, endR]
  exact ⟨rfl, rfl⟩
end GL
/-! GL part 29: the law's own tree. -/
namespace GL
open PySem L2
def lcut (rows : List Row) (c : Nat) (b : Option (Nat × Rat) × Rat) (cut : Rat) : Option (Nat × Rat) × Rat := if noR c cut rows = [] then b else bestS b (spreadR (lblR (yesR c cut rows)) + spreadR (lblR (noR c cut rows)), c, cut)
def lcol (rows : List Row) (b : Option (Nat × Rat) × Rat) (c : Nat) : Option (Nat × Rat) × Rat := (riseR (colR c rows)).foldl (lcut rows c) b
theorem lcut_fold (rows : List Row) (c : Nat) (b : Option (Nat × Rat) × Rat) : ∀ (cuts : List Rat) (acc : List Tst), (cuts.foldl (testS rows c) acc).foldl bestS b = cuts.foldl (lcut rows c) (acc.foldl bestS b)
  | [], acc => rfl
  | cut :: cuts, acc => by
    rw [List.foldl_cons, List.foldl_cons, lcut_fold rows c b cuts]
    congr 1
    unfold testS lcut
    split
    · rfl
    · rw [List.foldl_append]; rfl
theorem lcol_fold (rows : List Row) (b : Option (Nat × Rat) × Rat) : ∀ (cs : List Nat) (acc : List Tst), (cs.foldl (testC rows) acc).foldl bestS b = cs.foldl (lcol rows) (acc.foldl bestS b)
  | [], acc => rfl
  | c :: cs, acc => by
    rw [List.foldl_cons, List.foldl_cons, lcol_fold rows b cs]
    congr 1
    exact lcut_fold rows c b _ acc
theorem best_eq (n : Nat) (rows : List Row) : bestR n rows = ((List.range n).foldl (lcol rows) (none, spreadR (lblR rows))).1 := by
  unfold bestR testsR
  rw [lcol_fold]; rfl
section
variable {k m : Nat} {ls sp bo sd lb cu : FM}
/-- where the law's loops stand -/
def LSt (rows : List Row) (d1 d2 : D) (b : Option (Nat × Rat) × Rat) (env : Env') : Prop := ∃ d4 s5 s6 s7 s8 s9 s10 s11, IsP 143 b.2 d4 ∧ env = [.val (dRows rows), .val d1, .val d2, .val (dB b.1), .val d4, s5, s6, s7, s8, s9, s10, s11]
theorem linner (hls : PLessF 143 ls) (hsp : PSpreadF sp) (hbo : PBothF 71 bo) (hsd : PartF k m sd) (hlb : LabF lb) (hm : m ≤ 100) {rows : List Row} {n c : Nat} {g : Gh} (ho : RowsOk k n m rows) (hc : c < n) {d1 d2 : D} {cut : Rat} (hcut : Sz k cut) {b : Option (Nat × Rat) × Rat} {d4 : D} {s6 s7 s8 s9 s10 s11 : Sl} (h4 : IsP 143 b.2 d4) :
    ∃ d4' s7' s8' s9', IsP 143 (lcut rows c b cut).2 d4' ∧ P_lp__law_tree_2 ls sp bo sd lb [.val (dRows rows), .val d1, .val d2, .val (dB b.1), .val d4, .val (.int c), .val (dR cut), s7, s8, s9, s10, s11] g = .nx [.val (dRows rows), .val d1, .val d2, .val (dB (lcut rows c b cut).1), .val d4', .val (.int c), .val (dR cut), s7', s8', s9', s10, s11] g := by
  have e1 := hsd rows n c cut g ho hc hcut
  change sd [dRows rows, .int c, dR cut] g = .ok (.tup [dRows (yesR c cut rows), dRows (noR c cut rows)]) g at e1
  have oy : RowsOk k n m (yesR c cut rows) := ho.filter _
  have on : RowsOk k n m (noR c cut rows) := ho.filter _
  have lm : m ≤ LIM := Nat.le_trans hm (by decide)
  have e2 := hlb (yesR c cut rows) g (Nat.le_trans oy.1 lm)
  have e3 := hlb (noR c cut rows) g (Nat.le_trans on.1 lm)
  change lb [dRows (yesR c cut rows)] g = .ok (.lst ((lblR (yesR c cut rows)).map D.int)) g at e2
  change lb [dRows (noR c cut rows)] g = .ok (.lst ((lblR (noR c cut rows)).map D.int)) g at e3
  obtain ⟨da, ha, e4⟩ := hsp _ g (oy.ls (Nat.le_trans hm (by decide)))
  obtain ⟨db, hb, e5⟩ := hsp _ g (on.ls (Nat.le_trans hm (by decide)))
  obtain ⟨dc, hc', e6⟩ := hbo _ _ _ _ g ha hb
  have e7 := hls _ _ _ _ g hc' h4
  have e8 := ne_nil (noR c cut rows) g
  have lim2 := lim2
  by_cases q : noR c cut rows = []
  · refine ⟨d4, .val (dRows (yesR c cut rows)), .val (dRows (noR c cut rows)), .val dc, by simpa [lcut, q] using h4, ?_⟩
    have e8' : cmpop .NotEq (dRows (noR c cut rows)) (.lst []) g = .ok (.bl false) g := by rw [e8, q]; rfl
    have hl : lcut rows c b cut = b := by simp [lcut, q]
    rw [hl]
    simp [P_lp__law_tree_2, permL, e1, e2, e3, e4, e5, e6, e8']
  · have e8' : cmpop .NotEq (dRows (noR c cut rows)) (.lst []) g = .ok (.bl true) g := by
      rw [e8]
      cases hh : noR c cut rows with
      | nil => exact absurd hh q
      | cons _ _ => rfl
    by_cases w : spreadR (lblR (yesR c cut rows)) + spreadR (lblR (noR c cut rows)) < b.2
    · have hl : lcut rows c b cut = (some (c, cut), spreadR (lblR (yesR c cut rows)) + spreadR (lblR (noR c cut rows))) := by simp [lcut, q, bestS, w]
      refine ⟨dc, .val (dRows (yesR c cut rows)), .val (dRows (noR c cut rows)), .val dc, by rw [hl]; exact hc', ?_⟩
      rw [hl]
      simp [P_lp__law_tree_2, permL, e1, e2, e3, e4, e5, e6, e8', e7, w, lim2, dB]
    · have hl : lcut rows c b cut = b := by simp [lcut, q, bestS, w]
      refine ⟨d4, .val (dRows (yesR c cut rows)), .val (dRows (noR c cut rows)), .val dc, by rw [hl]; exact h4, ?_⟩
      rw [hl]
      simp [P_lp__law_tree_2, permL, e1, e2, e3, e4, e5, e6, e8', e7, w]
theorem lcolumn (hls : PLessF 143 ls) (hsp : PSpreadF sp) (hbo : PBothF 71 bo) (hcu : RiseF k cu) (hsd : PartF k m sd) (hlb : LabF lb) (hm : m ≤ 100) {rows : List Row} {n c : Nat} {g : Gh} (ho : RowsOk k n m rows) (hc : c < n) {d1 d2 : D} {b : Option (Nat × Rat) × Rat} {d4 : D} {s6 s7 s8 s9 s10 s11 : Sl} (h4 : IsP 143 b.2 d4) :
    ∃ env', P_lp__law_tree_3 ls sp bo cu sd lb [.val (dRows rows), .val d1, .val d2, .val (dB b.1), .val d4, .val (.int c), s6, s7, s8, s9, s10, s11] g = .nx env' g ∧ LSt rows d1 d2 (lcol rows b c) env' := by
  have lm : m ≤ LIM := Nat.le_trans hm (by decide)
  have cm := compL_mapT (tg := gTp 2 (gsCons (gNm 10) (gsCons (gNm 11) (gsNil)))) (t := tTrue) (el := P_ce__law_tree_1) (env := [hideS (.val (dRows rows)), hideS (.val d1), hideS (.val d2), hideS (.val (dB b.1)), hideS (.val d4), .val (.int c), hideS s6, hideS s7, hideS s8, hideS s9, .un, .un]) (g := g) dRow (fun _ => true) (fun r => dN (r.1[c]?.getD none)) rows (fun r hr => by
    obtain ⟨⟨hn, hx⟩, _⟩ := ho.2 r hr
    have hc' : c < r.1.length := by omega
    have at1 : atI (r.1.map dN) (c : Int) = some (dN r.1[c]) := by
      have := atI_nat (l := r.1.map dN) (i := c) (by simpa using hc')
      simpa using this
    have gg : r.1[c]?.getD none = r.1[c] := by rw [List.getElem?_eq_getElem hc']; rfl
    refine ⟨[hideS (.val (dRows rows)), hideS (.val d1), hideS (.val d2), hideS (.val (dB b.1)), hideS (.val d4), .val (.int c), hideS s6, hideS s7, hideS s8, hideS s9, .val (dNs r.1), .val (.int r.2)], by simp [dRow], rfl, fun _ => ?_⟩
    rw [gg]
    simp [P_ce__law_tree_1, dNs, at1])
  have hf : rows.filter (fun _ => true) = rows := by simp
  rw [hf] at cm
  have em : (rows.map fun r => dN (r.1[c]?.getD none)) = (colR c rows).map dN := by unfold colR; rw [List.map_map]; rfl
  rw [em] at cm
  have hl : rows.length ≤ LIM := Nat.le_trans ho.1 lm
  have eC := hcu (colR c rows) g (by unfold colR; rw [List.length_map]; exact Nat.le_trans ho.1 (Nat.le_trans hm (by decide))) (col_ok ho hc)
  obtain ⟨env', e, dz, s6', s7', s8', s9', hz, rfl⟩ := forL_fold (tg := gNm 6) (b := P_lp__law_tree_2 ls sp bo sd lb) (g := g) dR (lcut rows c) (fun b env => ∃ d4 s6 s7 s8 s9, IsP 143 b.2 d4 ∧ env = [.val (dRows rows), .val d1, .val d2, .val (dB b.1), .val d4, .val (.int c), s6, s7, s8, s9, s10, s11]) (riseR (colR c rows)) b [.val (dRows rows), .val d1, .val d2, .val (dB b.1), .val d4, .val (.int c), s6, s7, s8, s9, s10, s11] (by
    rintro cut hcm b env ⟨d4, s6, s7, s8, s9, h4, rfl⟩
    have hcs : Sz k cut := col_ok ho hc _ (rise_mem.mp hcm) cut rfl
    obtain ⟨d4', s7', s8', s9', h4', e⟩ := linner hls hsp hbo hsd hlb hm ho hc (d1 := d1) (d2 := d2) hcs (s6 := s6) (s7 := s7) (s8 := s8) (s9 := s9) (s10 := s10) (s11 := s11) (g := g) h4
    exact ⟨_, rfl, _, e, _, _, _, _, _, h4', rfl⟩) ⟨_, _, _, _, _, h4, rfl⟩
  refine ⟨[.val (dRows rows), .val d1, .val d2, .val (dB (lcol rows b c).1), .val dz, .val (.int c), s6', s7', s8', s9', s10, s11], ?_, dz, .val (.int c), s6', s7', s8', s9', s10, s11, hz, rfl⟩
  change _ = SR.nx [.val (dRows rows), .val d1, .val d2, .val (dB ((riseR (colR c rows)).foldl (lcut rows c) b).1), .val dz, .val (.int c), s6', s7', s8', s9', s10, s11] g
  have it : itemsD (dRows rows) g = .ok (rows.map dRow, none) g := rfl
  have lC : eNew (lComp (iV (eLv 0)) (gTp 2 (gsCons (gNm 10) (gsCons (gNm 11) (gsNil)))) (tTrue) (P_ce__law_tree_1) [10, 11]) [.val (dRows rows), .val d1, .val d2, .val (dB b.1), .val d4, .val (.int c), s6, s7, s8, s9, s10, s11] g = .ok (.lst ((colR c rows).map dN)) g := by
    have hl2 : ((colR c rows).map dN).length ≤ LIM := by simpa [colR] using hl
    simp only [eNew_ap, lComp_ap, iV_ap, eLv_ap, List.getElem?_cons_zero, R.bind_ok, it]
    simp only [blkE, wipeE, List.map_cons, List.map_nil, List.set]
    simp only [show hideS (.val (.int (c : Int))) = .val (.int c) from rfl]
    rw [cm]
    simp only [hl2, if_true, R.bind_ok]
  unfold P_lp__law_tree_3
  generalize eNew (lComp (iV (eLv 0)) (gTp 2 (gsCons (gNm 10) (gsCons (gNm 11) (gsNil)))) (tTrue) (P_ce__law_tree_1) [10, 11]) = LC at *
  simp [permL, lC, eC, e]
theorem rangeD_map (n : Nat) : rangeD 0 n = (List.range n).map fun (i : Nat) => D.int i := by
  unfold rangeD
  apply List.map_congr_left
  intro a _
  simp
theorem lloops (hls : PLessF 143 ls) (hsp : PSpreadF sp) (hbo : PBothF 71 bo) (hcu : RiseF k cu) (hsd : PartF k m sd) (hlb : LabF lb) (hm : m ≤ 100) {rows : List Row} {n : Nat} {g : Gh} (ho : RowsOk k n m rows) {d1 d2 d4 : D} (h4 : IsP 143 (spreadR (lblR rows)) d4) {s5 s6 s7 s8 s9 s10 s11 : Sl} :
    ∃ d4' s5 s6 s7 s8 s9 s10 s11, forL none (gNm 5) (P_lp__law_tree_3 ls sp bo cu sd lb) (rangeD 0 n) [.val (dRows rows), .val d1, .val d2, .val .non, .val d4, .un, .un, .un, .un, .un, .un, .un] g = .nx [.val (dRows rows), .val d1, .val d2, .val (dB (bestR n rows)), .val d4', s5, s6, s7, s8, s9, s10, s11] g := by
  obtain ⟨env', e, d4', t5, t6, t7, t8, t9, t10, t11, _, rfl⟩ := forL_fold (tg := gNm 5) (b := P_lp__law_tree_3 ls sp bo cu sd lb) (g := g) (fun (i : Nat) => D.int i) (lcol rows) (LSt rows d1 d2) (List.range n) (none, spreadR (lblR rows)) [.val (dRows rows), .val d1, .val d2, .val .non, .val d4, .un, .un, .un, .un, .un, .un, .un] (by
    rintro c hcm b env ⟨d4, s5, s6, s7, s8, s9, s10, s11, h4, rfl⟩
    have hc : c < n := List.mem_range.mp hcm
    obtain ⟨env', e, hS⟩ := lcolumn hls hsp hbo hcu hsd hlb hm ho hc (d1 := d1) (d2 := d2) (s6 := s6) (s7 := s7) (s8 := s8) (s9 := s9) (s10 := s10) (s11 := s11) (g := g) h4
    exact ⟨_, rfl, _, e, hS⟩) ⟨d4, _, _, _, _, _, _, _, h4, rfl⟩
  rw [← rangeD_map, ← best_eq] at e
  exact ⟨_, _, _, _, _, _, _, _, e⟩
end
theorem lot00 {k n m : Nat} {rows : List Row} (ho : RowsOk k n m rows) (hne : rows ≠ []) (g : Gh) : ∃ r0 : Row, subD (dRows rows) (.int 0) g = .ok (dRow r0) g ∧ subD (dRow r0) (.int 0) g = .ok (dNs r0.1) g ∧ oLen [dNs r0.1] g = .ok (.int n) g := by
  obtain ⟨r0, rs, rfl⟩ := List.exists_cons_of_ne_nil hne
  refine ⟨r0, ?_, rfl, ?_⟩
  · have a0 : atI (dRow r0 :: rs.map dRow) 0 = some (dRow r0) := by simp [atI, ixN]
    simp [dRows, a0]
  · have := (ho.2 r0 List.mem_cons_self).1.1
    simp [dNs, this]
@[simp] theorem deref_dRows {rows : List Row} {g : Gh} : deref g (dRows rows) = dRows rows := rfl
@[simp] theorem deref_dRow {r : Row} {g : Gh} : deref g (dRow r) = dRow r := rfl
@[simp] theorem deref_dNs {xs : List (Option Rat)} {g : Gh} : deref g (dNs xs) = dNs xs := rfl
theorem ltree_0 {k m : Nat} {rt ls sp bo cu sd lb tr : FM} (hr : RatF rt) (hsp : PSpreadF sp) (hlb : LabF lb) (hm : m ≤ 100) : TreeF k m 0 (mFun 2 12 (P_b__law_tree rt ls sp bo cu sd lb tr)) := fun rows n g ho hne hn => by
  have lo := ho.ls (Nat.le_trans hm (by decide))
  have e1 := hlb rows g (Nat.le_trans ho.1 (Nat.le_trans hm (by decide)))
  change lb [dRows rows] g = .ok (.lst ((lblR rows).map D.int)) g at e1
  obtain ⟨d4, h4, e2⟩ := hsp _ g lo
  have hl0 : 0 < (lblR rows).length := by unfold lblR; rw [List.length_map]; exact List.length_pos_iff.mpr hne
  have e3 := hr (lblR rows).sum (lblR rows).length g (by omega) (lo.len.mono (by decide))
  obtain ⟨r0, a1, a2, a3⟩ := lot00 ho hne g
  have r00 : rngOk 0 = true := rng_in (by decide) (by decide)
  have m0 : ∀ z : Int, mulOk z 0 = true := fun z => mulOk_right (by decide)
  have rz : rangeD 0 0 = [] := rfl
  have e4 : oLen [.lst ((lblR rows).map D.int)] g = .ok (.int (lblR rows).length) g := by simp
  generalize hq : lblR rows = lbs at *
  have ez : meanR lbs = Rat.divInt lbs.sum lbs.length := rfl
  simp [mFun, P_b__law_tree, permL, e1, e2, a1, a2, a3, m0, r00, rz, forL_nil, e3, lim2, endR, treeR, dT, hq, ez]
theorem ltree_s {k m d : Nat} {rt ls sp bo cu sd lb tr : FM} (hr : RatF rt) (hls : PLessF 143 ls) (hsp : PSpreadF sp) (hbo : PBothF 71 bo) (hcu : RiseF k cu) (hsd : PartF k m sd) (hlb : LabF lb) (ht : TreeF k m d tr) (hm : m ≤ 100) : TreeF k m (d + 1) (mFun 2 12 (P_b__law_tree rt ls sp bo cu sd lb tr)) := fun rows n g ho hne hn => by
  have lo := ho.ls (Nat.le_trans hm (by decide))
  have e1 := hlb rows g (Nat.le_trans ho.1 (Nat.le_trans hm (by decide)))
  change lb [dRows rows] g = .ok (.lst ((lblR rows).map D.int)) g at e1
  obtain ⟨d4, h4, e2⟩ := hsp _ g lo
  have hl0 : 0 < (lblR rows).length := by unfold lblR; rw [List.length_map]; exact List.length_pos_iff.mpr hne
  have e3 := hr (lblR rows).sum (lblR rows).length g (by omega) (lo.len.mono (by decide))
  obtain ⟨r0, a1, a2, a3⟩ := lot00 ho hne g
  have hd1 : (0 : Int) < (d : Int) + 1 := by omega
  have m0 : ∀ z : Int, mulOk z 1 = true := fun z => mulOk_right (by decide)
  have rn : rngOk (n : Int) = true := rng_nat (by omega)
  obtain ⟨d4', s5, s6, s7, s8, s9, s10, s11, eL⟩ := lloops hls hsp hbo hcu hsd hlb hm ho (g := g) (d1 := .int ((d + 1 : Nat) : Int)) (d2 := .lst ((lblR rows).map D.int)) (d4 := d4) (h4.mono (by decide)) (s5 := .un) (s6 := .un) (s7 := .un) (s8 := .un) (s9 := .un) (s10 := .un) (s11 := .un)
  have lim1 : (1 : Nat) ≤ LIM := by decide
  have pd : ((d + 1 : Nat) : Int) = (d : Int) + 1 := by omega
  rw [pd] at eL
  cases hq : bestR n rows with
  | none =>
    rw [hq] at eL
    simp only [dB] at eL
    generalize hq2 : lblR rows = lbs at *
    have ez : meanR lbs = Rat.divInt lbs.sum lbs.length := rfl
    simp [mFun, P_b__law_tree, permL, e1, e2, a1, a2, a3, hd1, m0, rn, eL, e3, lim2, endR, treeR, hq, dT, hq2, ez]
  | some p =>
    rw [hq] at eL
    simp only [dB] at eL
    obtain ⟨p1, p2, p3, p4⟩ := best_some ho hq
    have f1 := hsd rows n p.1 p.2 g ho p1 p2
    change sd [dRows rows, .int p.1, dR p.2] g = .ok (.tup [dRows (yesR p.1 p.2 rows), dRows (noR p.1 p.2 rows)]) g at f1
    have f2 := ht (yesR p.1 p.2 rows) n g (ho.filter _) p3 hn
    have f3 := ht (noR p.1 p.2 rows) n g (ho.filter _) p4 hn
    have hd : (d : Int) + 1 - 1 = d := by omega
    have q0 : ∀ x y : D, atI [x, y] 0 = some x := fun _ _ => rfl
    have q1 : ∀ x y : D, atI [x, y] 1 = some y := fun _ _ => rfl
    have lim3 : (3 : Nat) ≤ LIM := by decide
    have lim5 : (5 : Nat) ≤ LIM := by decide
    generalize lblR rows = lbs at *
    simp [mFun, P_b__law_tree, permL, e1, e2, a1, a2, a3, hd1, m0, rn, eL, q0, q1, f1, hd, f2, f3, lim1, lim2, lim3, lim5, endR, treeR, hq, dT]
end GL
/-! GL part 30: trees and rows shown. -/
namespace GL
open PySem L2
def szT : Tr → Nat
  | .leaf _ => 0
  | .test _ _ y z => 1 + szT y + szT z
theorem sz_le {k n : Nat} : ∀ (d : Nat) (t : Tr), TrOk k n d t → szT t + 1 ≤ 2 ^ d
  | d, .leaf r, _ => by
    have := Nat.one_le_two_pow (n := d)
    simp [szT]; omega
  | 0, .test _ _ _ _, h => h.elim
  | d + 1, .test c cut y z, h => by
    have h1 := sz_le d y h.2.2.1
    have h2 := sz_le d z h.2.2.2
    simp only [szT]
    rw [Nat.pow_succ]; omega
theorem wt_T : ∀ t : Tr, wtD 40 (dT t) ≤ 323 * szT t + 138
  | .leaf r => by
    simp only [dT, dR, wtD, wtDs, szT]
    have : (Str.length "leaf") = 4 := by decide +kernel
    omega
  | .test c cut y z => by
    have h1 := wt_T y
    have h2 := wt_T z
    simp only [dT, dR, wtD, wtDs, szT]
    have : (Str.length "test") = 4 := by decide +kernel
    omega
theorem bd_T {n : Nat} (hn : n ≤ 1000) : ∀ (d : Nat) (t : Tr), TrOk 40 n d t → bdD 40 (dT t) = true
  | d, .leaf r, h => by
    have h : Sz 40 r := by cases d <;> exact h
    simp only [dT, dR, bdD, bdDs, Bool.and_true, Bool.true_and, Bool.and_eq_true, decide_eq_true_eq]
    exact ⟨h.1, h.2⟩
  | 0, .test _ _ _ _, h => h.elim
  | d + 1, .test c cut y z, h => by
    have h1 := bd_T hn d y h.2.2.1
    have h2 := bd_T hn d z h.2.2.2
    have h3 := h.1
    simp only [dT, dR, bdD, bdDs, h1, h2, Bool.and_true, Bool.true_and, Bool.and_eq_true, decide_eq_true_eq]
    exact ⟨by omega, h.2.1.1, h.2.1.2⟩
theorem ok_T {k n : Nat} : ∀ (d : Nat) (t : Tr) (m : Nat), TrOk k n d t → okD (dT t) (d + 3 + m) = true
  | d, .leaf r, m, h => by
    have : PyData.strOk "leaf" = true := by decide +kernel
    rw [show d + 3 + m = (d + m) + 1 + 1 + 1 by omega]
    simp only [dT, dR, okD, okDs, this, Bool.and_self]
  | 0, .test _ _ _ _, m, h => h.elim
  | d + 1, .test c cut y z, m, h => by
    have h1 := ok_T d y m h.2.2.1
    have h2 := ok_T d z m h.2.2.2
    have : PyData.strOk "test" = true := by decide +kernel
    rw [show d + 1 + 3 + m = (d + 3 + m) + 1 by omega]
    have h3 : okD (dR cut) (d + 3 + m) = true := by rw [show d + 3 + m = (d + 2 + m) + 1 by omega]; rfl
    simp only [dT, okD, okDs, this, h1, h2, h3, Bool.and_self]
theorem wt_dN (x : Option Rat) : wtD 40 (dN x) ≤ 95 := by
  cases x with
  | none => simp [dN, wtD]
  | some r => simp [dN, dR, wtD, wtDs]
theorem wts_dN : ∀ xs : List (Option Rat), wtDs 40 (xs.map dN) ≤ 97 * xs.length
  | [] => by simp [wtDs]
  | x :: xs => by
    have h1 := wt_dN x
    have h2 := wts_dN xs
    simp only [List.map_cons, wtDs, List.length_cons]; omega
theorem bd_dN {x : Option Rat} (h : SzN 40 x) : bdD 40 (dN x) = true := by
  cases x with
  | none => rfl
  | some r =>
    have := h r rfl
    simp only [dN, dR, bdD, bdDs, Bool.and_true, Bool.and_eq_true, decide_eq_true_eq]
    exact ⟨this.1, this.2⟩
theorem bds_dN : ∀ {xs : List (Option Rat)}, (∀ x ∈ xs, SzN 40 x) → bdDs 40 (xs.map dN) = true
  | [], _ => rfl
  | x :: xs, h => by
    simp only [List.map_cons, bdDs, Bool.and_eq_true]
    exact ⟨bd_dN (h x List.mem_cons_self), bds_dN fun z hz => h z (List.mem_cons_of_mem _ hz)⟩

theorem rprT {n d : Nat} {t : Tr} (hd : d ≤ 8) (hn : n ≤ 1000) (ht : TrOk 40 n d t) : okD (dT t) 64 = true ∧ rprOk (dT t) = true := by
  have ok : okD (dT t) 64 = true := by
    have := ok_T d t (61 - d) ht
    rw [show d + 3 + (61 - d) = 64 by omega] at this
    exact this
  have hs := sz_le d t ht
  have h2 : 2 ^ d ≤ 2 ^ 8 := Nat.pow_le_pow_right (by decide) hd
  refine ⟨ok, rpr_ok 40 (323 * szT t + 138) (by decide) (by decide) ok (bd_T hn d t ht) (wt_T t) ?_⟩
  have hL : (LIM : Nat) = 100000 := rfl
  omega
theorem wt_row {k n : Nat} {r : Row} (h : NsOk k n r.1 ∧ Bd 20 r.2) : wtD 40 (dRow r) ≤ 97 * n + 60 := by
  have h1 := wts_dN r.1
  have h2 := h.1.1
  simp only [dRow, dNs, wtD, wtDs]
  rw [h2] at h1
  omega
theorem wts_rows {k n : Nat} : ∀ {rows : List Row}, (∀ r ∈ rows, NsOk k n r.1 ∧ Bd 20 r.2) → wtDs 40 (rows.map dRow) ≤ (97 * n + 62) * rows.length
  | [], _ => by simp [wtDs]
  | r :: rows, h => by
    have h1 := wt_row (h r List.mem_cons_self)
    have h2 := wts_rows (rows := rows) fun x hx => h x (List.mem_cons_of_mem _ hx)
    simp only [List.map_cons, wtDs, List.length_cons, Nat.mul_add, Nat.mul_one]
    omega
theorem bd_row {n : Nat} {r : Row} (h : NsOk 40 n r.1 ∧ Bd 20 r.2) : bdD 40 (dRow r) = true := by
  have := h.2.mono (by decide : 20 ≤ 40)
  simp only [dRow, dNs, bdD, bdDs, bds_dN h.1.2, Bool.and_true, Bool.true_and, decide_eq_true_eq]
  exact this
theorem bds_rows {n : Nat} : ∀ {rows : List Row}, (∀ r ∈ rows, NsOk 40 n r.1 ∧ Bd 20 r.2) → bdDs 40 (rows.map dRow) = true
  | [], _ => rfl
  | r :: rows, h => by
    simp only [List.map_cons, bdDs, Bool.and_eq_true]
    exact ⟨bd_row (h r List.mem_cons_self), bds_rows fun z hz => h z (List.mem_cons_of_mem _ hz)⟩
theorem rprRows {n m : Nat} {rows : List Row} (hn : n ≤ 8) (hm : m ≤ 100) (ho : RowsOk 40 n m rows) : rprOk (dRows rows) = true := by
  refine rpr_ok 40 90000 (by decide) (by decide) (okD_dRows rows 60) ?_ ?_ (by decide)
  · simp only [dRows, bdD]; exact bds_rows ho.2
  · have h1 := wts_rows ho.2
    have h2 : (97 * n + 62) * rows.length ≤ (97 * 8 + 62) * 100 := Nat.mul_le_mul (by omega) (Nat.le_trans ho.1 hm)
    simp only [dRows, wtD]; omega
theorem oRepr_ok {d : D} {g : Gh} (h : rprOk d = true) : oRepr [d] g = .ok (.str (reprS d)) g := by
  have ok : okD d 64 = true := by
    unfold rprOk at h; simp only [Bool.and_eq_true] at h; exact h.1.1
  simp [oRepr, okD_deref ok, h]
end GL
/-! GL part 31: what is a tree. -/
namespace GL
open PySem L2
noncomputable def P_b_is_whole : MS := sRet (eAnd (eIsi isInt (eLv 0)) (eNot (tV (eIsi isBool (eLv 0)))))
noncomputable def P_b_is_within (c_is_whole : FM) : MS := sRet (eAnd (eCall c_is_whole 1 0 [0] [] (lCons (eLv 0) (lNil)) (lNil)) (eChain .LtE .LtE (eLv 1) (eLv 0) (eLv 2)))
noncomputable def P_b_is_ratio (c_is_whole : FM) (c_common_part : FM) : MS := sSeq (sIf (tOr (tNot (tV (eIsi isTuple (eLv 0)))) (tOr (tV (eCmp .NotEq (eBi oLen (lCons (eLv 0) (lNil))) (eC (.int 2)))) (tOr (tNot (tV (eCall c_is_whole 1 0 [0] [] (lCons (eSub (eLv 0) (eC (.int 0))) (lNil)) (lNil)))) (tNot (tV (eCall c_is_whole 1 0 [0] [] (lCons (eSub (eLv 0) (eC (.int 1))) (lNil)) (lNil))))))) (sRet (eC (.bl false))) (sSkip)) (sRet (eAnd (eCmp .Gt (eSub (eLv 0) (eC (.int 1))) (eC (.int 0))) (eCmp .Eq (eCall c_common_part 2 0 [0, 1] [] (lCons (eSub (eLv 0) (eC (.int 0))) (lCons (eSub (eLv 0) (eC (.int 1))) (lNil))) (lNil)) (eC (.int 1)))))
noncomputable def P_b_is_tree_on (c_is_within : FM) (c_is_ratio : FM) (c_is_tree_on : FM) : MS := sSeq (sIf (tOr (tNot (tV (eIsi isTuple (eLv 0)))) (tOr (tV (eCmp .Eq (eLv 0) (eTup (lNil)))) (tNot (tV (eIsi isStr (eSub (eLv 0) (eC (.int 0)))))))) (sRet (eC (.bl false))) (sSkip)) (sSeq (sAsg (eLv 0) (gSt 1 2 (gsCons (gNm 3) (gsCons (gNm 4) (gsNil))))) (sSeq (sIf (tV (eCmp .Eq (eLv 3) (eC (.str "leaf")))) (sRet (eAnd (eCmp .Eq (eBi oLen (lCons (eLv 4) (lNil))) (eC (.int 1))) (eCall c_is_ratio 1 0 [0] [] (lCons (eSub (eLv 4) (eC (.int 0))) (lNil)) (lNil)))) (sSkip)) (sSeq (sIf (tOr (tV (eCmp .NotEq (eLv 3) (eC (.str "test")))) (tOr (tV (eCmp .NotEq (eBi oLen (lCons (eLv 4) (lNil))) (eC (.int 4)))) (tV (eCmp .Eq (eLv 2) (eC (.int 0)))))) (sRet (eC (.bl false))) (sSkip)) (sSeq (sAsg (eLv 4) (gSq 4 (gsCons (gNm 5) (gsCons (gNm 6) (gsCons (gNm 7) (gsCons (gNm 8) (gsNil))))))) (sSeq (sIf (tOr (tNot (tV (eCall c_is_within 3 0 [0, 1, 2] [] (lCons (eLv 5) (lCons (eC (.int 0)) (lCons (eBin .Sub (eLv 1) (eC (.int 1))) (lNil)))) (lNil)))) (tNot (tV (eCall c_is_ratio 1 0 [0] [] (lCons (eLv 6) (lNil)) (lNil))))) (sRet (eC (.bl false))) (sSkip)) (sRet (eAnd (eCall c_is_tree_on 3 0 [0, 1, 2] [] (lCons (eLv 7) (lCons (eLv 1) (lCons (eBin .Sub (eLv 2) (eC (.int 1))) (lNil)))) (lNil)) (eCall c_is_tree_on 3 0 [0, 1, 2] [] (lCons (eLv 8) (lCons (eLv 1) (lCons (eBin .Sub (eLv 2) (eC (.int 1))) (lNil)))) (lNil)))))))))
noncomputable def P_b_is_tree (c_is_tree_on : FM) : MS := sRet (eCall c_is_tree_on 3 0 [0, 1, 2] [] (lCons (eLv 0) (lCons (eLv 1) (lCons (eC (.int 8)) (lNil)))) (lNil))
noncomputable def P_ce_spread_in_1 (c_spread_in : FM) : ME := eCall c_spread_in 2 0 [0, 1] [] (lCons (eLv 8) (lCons (eLv 9) (lNil))) (lNil)
noncomputable def P_b_spread_in (c_worked : FM) (c_spread_of : FM) (c_labels_of : FM) (c_rows_parted : FM) (c_spread_in : FM) : MS := sSeq (sAsg (eLv 0) (gSt 1 2 (gsCons (gNm 2) (gsCons (gNm 3) (gsNil))))) (sSeq (sIf (tV (eCmp .Eq (eLv 2) (eC (.str "leaf")))) (sRet (eCall c_spread_of 1 0 [0] [] (lCons (eCall c_labels_of 1 0 [0] [] (lCons (eLv 1) (lNil)) (lNil)) (lNil)) (lNil))) (sSkip)) (sSeq (sAsg (eLv 3) (gSt 2 3 (gsCons (gNm 4) (gsCons (gNm 5) (gsCons (gNm 6) (gsNil)))))) (sSeq (sSet 7 (eNew (lComp (iZipS (eLv 6) (eCall c_rows_parted 3 0 [0, 1, 2] [] (lCons (eLv 1) (lCons (eLv 4) (lCons (eLv 5) (lNil)))) (lNil))) (gTp 2 (gsCons (gNm 8) (gsCons (gNm 9) (gsNil)))) (tTrue) (P_ce_spread_in_1 c_spread_in) [8, 9]))) (sRet (eCall c_worked 3 0 [0, 1, 2] [] (lCons (eC (.str "plus")) (lCons (eSub (eLv 7) (eC (.int 0))) (lCons (eSub (eLv 7) (eC (.int 1))) (lNil)))) (lNil))))))
noncomputable def P_ce_is_good_1 (c_held : FM) : ME := eCmp .LtE (eCall c_held 2 0 [0, 1] [] (lCons (eLv 2) (lCons (eLv 3) (lNil))) (lNil)) (eC (.int 0))
noncomputable def P_b_is_good (c_held : FM) (c_spread_of : FM) (c_labels_of : FM) (c_tests_of : FM) (c_is_tree : FM) (c_spread_in : FM) : MS := sSeq (sIf (tNot (tV (eCall c_is_tree 2 0 [0, 1] [] (lCons (eLv 0) (lCons (eBi oLen (lCons (eSub (eSub (eLv 1) (eC (.int 0))) (eC (.int 0))) (lNil))) (lNil))) (lNil)))) (sRet (eC (.bl false))) (sSkip)) (sSeq (sSet 2 (eCall c_spread_in 2 0 [0, 1] [] (lCons (eLv 0) (lCons (eLv 1) (lNil))) (lNil))) (sSeq (sIf (tV (eCmp .Gt (eCall c_held 2 0 [0, 1] [] (lCons (eLv 2) (lCons (eCall c_spread_of 1 0 [0] [] (lCons (eCall c_labels_of 1 0 [0] [] (lCons (eLv 1) (lNil)) (lNil)) (lNil)) (lNil)) (lNil))) (lNil)) (eC (.int 0)))) (sRet (eC (.bl false))) (sSkip)) (sRet (eBi oAll (lCons (eNew (lComp (iV (eCall c_tests_of 1 0 [0] [] (lCons (eLv 1) (lNil)) (lNil))) (gTp 3 (gsCons (gNm 3) (gsCons (gNm 4) (gsCons (gNm 5) (gsNil))))) (tTrue) (P_ce_is_good_1 c_held) [3, 4, 5])) (lNil))))))
/-- any data of no great size -/
structure AnyD (K : Nat) (d : D) : Prop where
  ok : okD d 64 = true
  bd : bdD K d = true
  wt : wtD K d ≤ LIM
mutual
theorem okD_up : ∀ (d : D) (n m : Nat), n ≤ m → okD d n = true → okD d m = true
  | .non, _, _, _, _ => by simp [okD]
  | .bl _, _, _, _, _ => by simp [okD]
  | .int _, _, _, _, _ => by simp [okD]
  | .str x, _, _, _, h => by simpa [okD] using h
  | .tup xs, 0, _, _, h => by simp [okD] at h
  | .lst xs, 0, _, _, h => by simp [okD] at h
  | .tup xs, n + 1, 0, hm, h => by omega
  | .lst xs, n + 1, 0, hm, h => by omega
  | .tup xs, n + 1, m + 1, hm, h => by simp only [okD] at h ⊢; exact okDs_up xs n m (by omega) h
  | .lst xs, n + 1, m + 1, hm, h => by simp only [okD] at h ⊢; exact okDs_up xs n m (by omega) h
  | .loc _, _, _, _, h => by simp [okD] at h
  | .fn _, _, _, _, h => by simp [okD] at h
  | .arr _, _, _, _, h => by simp [okD] at h
theorem okDs_up : ∀ (ds : List D) (n m : Nat), n ≤ m → okDs ds n = true → okDs ds m = true
  | [], _, _, _, _ => by simp [okDs]
  | d :: ds, n, m, hm, h => by
    have h : okD d n = true ∧ okDs ds n = true := by simpa [okDs] using h
    simp only [okDs, okD_up d n m hm h.1, okDs_up ds n m hm h.2, Bool.and_self]
end
theorem okDs_mem : ∀ {xs : List D} {n : Nat}, okDs xs n = true → ∀ x ∈ xs, okD x n = true
  | [], _, _, x, hx => nomatch hx
  | y :: ys, n, h, x, hx => by
    have h : okD y n = true ∧ okDs ys n = true := by simpa [okDs] using h
    rcases List.mem_cons.mp hx with rfl | hx
    · exact h.1
    · exact okDs_mem h.2 x hx
theorem bdDs_mem {k : Nat} : ∀ {xs : List D}, bdDs k xs = true → ∀ x ∈ xs, bdD k x = true
  | [], _, x, hx => nomatch hx
  | y :: ys, h, x, hx => by
    have h : bdD k y = true ∧ bdDs k ys = true := by simpa [bdDs] using h
    rcases List.mem_cons.mp hx with rfl | hx
    · exact h.1
    · exact bdDs_mem h.2 x hx
theorem wtDs_mem {k : Nat} : ∀ {xs : List D}, ∀ x ∈ xs, wtD k x ≤ wtDs k xs
  | [], x, hx => nomatch hx
  | y :: ys, x, hx => by
    simp only [wtDs]
    rcases List.mem_cons.mp hx with rfl | hx
    · omega
    · have := wtDs_mem (k := k) x hx; omega
theorem wtDs_len {k : Nat} : ∀ xs : List D, xs.length ≤ wtDs k xs
  | [] => by simp
  | y :: ys => by
    have := wtDs_len (k := k) ys
    simp only [wtDs, List.length_cons]; omega
theorem AnyD.item {K : Nat} {xs : List D} (h : AnyD K (.tup xs)) {x : D} (hx : x ∈ xs) : AnyD K x := by
  obtain ⟨h1, h2, h3⟩ := h
  simp only [okD] at h1
  simp only [bdD] at h2
  simp only [wtD] at h3
  have := wtDs_mem (k := K) x hx
  exact ⟨okD_up x 63 64 (by decide) (okDs_mem h1 x hx), bdDs_mem h2 x hx, by omega⟩
theorem AnyD.len {K : Nat} {xs : List D} (h : AnyD K (.tup xs)) : xs.length ≤ LIM := by
  have h3 := h.wt
  have := wtDs_len (k := K) xs
  simp only [wtD] at h3
  omega
theorem AnyD.deref {K : Nat} {d : D} (h : AnyD K d) {g : Gh} : deref g d = d := okD_deref h.ok
/-! ### whole numbers, ratios -/
def wholeD : D → Bool
  | .int _ => true
  | _ => false
def withinD (lo hi : Int) : D → Bool
  | .int i => decide (lo ≤ i) && decide (i ≤ hi)
  | _ => false
def ratioD : D → Bool
  | .tup [.int a, .int b] => decide (0 < b) && decide (Int.gcd a b = 1)
  | _ => false
def WholeF (f : FM) : Prop := ∀ (d : D) (g : Gh), okD d 64 = true → f [d] g = .ok (.bl (wholeD d)) g
theorem whole_spec : WholeF (mFun 1 1 P_b_is_whole) := fun d g h => by
  have hd := okD_deref (g := g) h
  cases d <;> first
    | (simp [okD] at h; done)
    | simp [mFun, P_b_is_whole, hd, isInt, isBool, wholeD, endR]
def WithinF (f : FM) : Prop := ∀ (d : D) (lo hi : Int) (g : Gh), okD d 64 = true → f [d, .int lo, .int hi] g = .ok (.bl (withinD lo hi d)) g
theorem within_spec {w : FM} (hw : WholeF w) : WithinF (mFun 3 3 (P_b_is_within w)) := fun d lo hi g h => by
  have e := hw d g h
  cases d <;> try (simp only [wholeD] at e; simp [mFun, P_b_is_within, permL, e, withinD, endR]; done)
  rename_i i
  simp only [wholeD] at e
  by_cases h1 : lo ≤ i
  · simp [mFun, P_b_is_within, permL, e, withinD, endR, h1]
  · simp [mFun, P_b_is_within, permL, e, withinD, endR, h1]
def CpF (K : Nat) (f : FM) : Prop := ∀ (a b : Int) (g : Gh), Bd K a → Bd K b → f [.int a, .int b] g = .ok (.int (Int.gcd a b)) g
def RatioF (K : Nat) (f : FM) : Prop := ∀ (d : D) (g : Gh), AnyD K d → f [d] g = .ok (.bl (ratioD d)) g
theorem ratio_spec {K : Nat} {w c : FM} (hw : WholeF w) (hc : CpF K c) : RatioF K (mFun 1 1 (P_b_is_ratio w c)) := fun d g h => by
  have hd := h.deref (g := g)
  cases d with
  | tup xs =>
    match xs, h with
    | [], h => simp [mFun, P_b_is_ratio, isTuple, ratioD, endR]
    | [a], h => simp [mFun, P_b_is_ratio, isTuple, ratioD, endR]
    | a :: b :: c' :: r, h =>
      have : ¬ ((r.length : Int) + 1 + 1 + 1 = 2) := by omega
      have e0 : ratioD (.tup (a :: b :: c' :: r)) = false := by cases a <;> cases b <;> rfl
      rw [e0]
      simp [mFun, P_b_is_ratio, isTuple, endR, this]
    | [a, b], h =>
      have ha := h.item (x := a) (by simp)
      have hb := h.item (x := b) (by simp)
      have ea := hw a g ha.ok
      have eb := hw b g hb.ok
      have q0 : atI [a, b] 0 = some a := rfl
      have q1 : atI [a, b] 1 = some b := rfl
      have base : ratioD (.tup [a, b]) = false → (wholeD a && wholeD b) = false → mFun 1 1 (P_b_is_ratio w c) [.tup [a, b]] g = .ok (.bl false) g := fun _ hz => by
        cases hwa : wholeD a with
        | false => rw [hwa] at ea; simp [mFun, P_b_is_ratio, isTuple, permL, q0, q1, ea, endR]
        | true =>
          rw [hwa] at ea hz
          have hz : wholeD b = false := by simpa using hz
          rw [hz] at eb
          simp [mFun, P_b_is_ratio, isTuple, permL, q0, q1, ea, eb, endR]
      by_cases hz : (wholeD a && wholeD b) = true
      · cases a <;> simp [wholeD] at hz
        cases b <;> simp [wholeD] at hz
        rename_i x y
        have bx := ha.bd
        have by' := hb.bd
        simp only [bdD, decide_eq_true_eq] at bx by'
        have ec := hc x y g bx by'
        simp only [wholeD] at ea eb
        have ig : ((Int.gcd x y : Int) = 1) ↔ Int.gcd x y = 1 := by omega
        by_cases hp : 0 < y
        · simp [mFun, P_b_is_ratio, isTuple, permL, q0, q1, ea, eb, hp, ec, ratioD, endR, ig]
        · simp [mFun, P_b_is_ratio, isTuple, permL, q0, q1, ea, eb, hp, ratioD, endR]
      · have hz : (wholeD a && wholeD b) = false := by simpa using hz
        have e0 : ratioD (.tup [a, b]) = false := by
          cases a <;> cases b <;> first | rfl | (simp [wholeD] at hz)
        rw [e0]; exact base e0 hz
  | loc n => have := h.ok; simp [okD] at this
  | fn n => have := h.ok; simp [okD] at this
  | arr n => have := h.ok; simp [okD] at this
  | non => simp [mFun, P_b_is_ratio, isTuple, ratioD, endR]
  | bl b => simp [mFun, P_b_is_ratio, isTuple, ratioD, endR]
  | int b => simp [mFun, P_b_is_ratio, isTuple, ratioD, endR]
  | str b => simp [mFun, P_b_is_ratio, isTuple, ratioD, endR]
  | lst b => simp [mFun, P_b_is_ratio, isTuple, ratioD, endR]
end GL
/-! GL part 32: trees looked at. -/
namespace GL
open PySem L2
/-- a tree for rows of so many numbers, so many floors at most -/
def treeD (cols : Int) : Nat → D → Bool
  | fl, .tup (.str w :: rest) =>
    if w = "leaf" then (match rest with | [r] => ratioD r | _ => false)
    else if w = "test" then (match fl, rest with
      | fl + 1, [c, cut, y, z] => withinD 0 (cols - 1) c && ratioD cut && treeD cols fl y && treeD cols fl z
      | _, _ => false)
    else false
  | _, _ => false
def TreeOnF (K fl : Nat) (f : FM) : Prop := ∀ (d : D) (cols : Int) (g : Gh), AnyD K d → f [d, .int cols, .int fl] g = .ok (.bl (treeD cols fl d)) g
theorem str_test_leaf : (("test" : Str) == ("leaf" : Str)) = false := by decide +kernel
theorem treeD_no {cols : Int} {fl : Nat} {x : D} {xs : List D} (h : strD x = false) : treeD cols fl (.tup (x :: xs)) = false := by
  cases x <;> first | (cases fl <;> rfl) | (simp [strD] at h)
theorem tree_on_spec {K fl : Nat} {wi ra tr : FM} (hw : WithinF wi) (hr : RatioF K ra) (ht : ∀ fl', fl = fl' + 1 → TreeOnF K fl' tr) : TreeOnF K fl (mFun 3 9 (P_b_is_tree_on wi ra tr)) := fun d cols g h => by
  have notTup : (∀ xs, d ≠ .tup xs) → mFun 3 9 (P_b_is_tree_on wi ra tr) [d, .int cols, .int fl] g = .ok (.bl (treeD cols fl d)) g := fun hne => by
    have e0 : treeD cols fl d = false := by
      cases d <;> first | (cases fl <;> rfl) | exact absurd rfl (hne _)
    rw [e0]
    have hd := h.deref (g := g)
    cases d <;> first | exact absurd rfl (hne _) | (have := h.ok; simp [okD] at this; done) | simp [mFun, P_b_is_tree_on, isTuple, endR]
  cases d with
  | tup xs =>
    cases xs with
    | nil =>
      have e0 : treeD cols fl (.tup []) = false := by cases fl <;> rfl
      have eq : cmpop .Eq (.tup []) (.tup []) g = .ok (.bl true) g := eq_same rfl
      rw [e0]
      simp [mFun, P_b_is_tree_on, isTuple, eq, endR]
    | cons x rest =>
      have okx : okD (.tup (x :: rest)) 64 = true := h.ok
      have neq : cmpop .Eq (.tup (x :: rest)) (.tup []) g = .ok (.bl false) g := by
        have ok0 : okD (.tup []) 64 = true := rfl
        rw [eq_ap, okD_deref okx, okD_deref ok0, okE_ok okx ok0]; rfl
      have q0 : atI (x :: rest) 0 = some x := by simp [atI, ixN]
      have hx := h.item (x := x) (by simp)
      by_cases hs : strD x = true
      · cases x <;> simp [strD] at hs
        rename_i w
        have hlen := h.len
        have l1 : rest.length + 1 ≤ LIM := by simpa using hlen
        have hin : ∀ y ∈ rest, AnyD K y := fun y hy => h.item (List.mem_cons_of_mem _ hy)
        by_cases hl : w = "leaf"
        · subst hl
          match rest, hin, l1, q0, neq with
          | [], hin, l1, q0, neq =>
            have e0 : treeD cols fl (.tup [.str "leaf"]) = false := by cases fl <;> rfl
            have l1' : (1 : Nat) ≤ LIM := by decide
            rw [e0]
            simp [mFun, P_b_is_tree_on, isTuple, neq, q0, isStr, l1', endR]
          | [r], hin, l1, q0, neq =>
            have e0 : treeD cols fl (.tup [.str "leaf", r]) = ratioD r := by cases fl <;> rfl
            rw [e0]
            have er := hr r g (hin r (by simp))
            have a0 : atI [r] 0 = some r := rfl
            have l2 : (2 : Nat) ≤ LIM := by decide
            simp [mFun, P_b_is_tree_on, isTuple, neq, q0, isStr, l2, permL, a0, er, endR]
          | r :: r' :: rs, hin, l1, q0, neq =>
            have e0 : treeD cols fl (.tup (.str "leaf" :: r :: r' :: rs)) = false := by unfold treeD; rfl
            rw [e0]
            have : ¬ ((rs.length : Int) + 1 + 1 = 1) := by omega
            have l1' : rs.length + 1 + 1 + 1 ≤ LIM := by simpa using l1
            simp [mFun, P_b_is_tree_on, isTuple, neq, q0, isStr, l1', this, endR]
        · have hlq : (w == ("leaf" : Str)) = false := by simpa using hl
          by_cases hte : w = "test"
          · subst hte
            have eqq : cmpop .Eq (.str "test") (.str "leaf") g = .ok (.bl false) g := eqS_no str_test_leaf
            by_cases h4 : rest.length = 4
            · match rest, h4, hin, l1, q0, neq with
              | [c, cut, y, z], _, hin, l1, q0, neq =>
                have lim5 : (5 : Nat) ≤ LIM := by decide
                cases fl with
                | zero =>
                  have e0 : treeD cols 0 (.tup [.str "test", c, cut, y, z]) = false := by
                    unfold treeD; rw [if_neg hl, if_pos rfl]
                  rw [e0]
                  simp [mFun, P_b_is_tree_on, isTuple, neq, q0, isStr, lim5, eqq, endR]
                | succ fl =>
                  have e0 : treeD cols (fl + 1) (.tup [.str "test", c, cut, y, z]) = (withinD 0 (cols - 1) c && ratioD cut && treeD cols fl y && treeD cols fl z) := by
                    conv => lhs; unfold treeD
                    rw [if_neg hl, if_pos rfl]
                  have e1 := hw c 0 (cols - 1) g (hin c (by simp)).ok
                  have e2 := hr cut g (hin cut (by simp))
                  have e3 := ht fl rfl y cols g (hin y (by simp))
                  have e4 := ht fl rfl z cols g (hin z (by simp))
                  have f0 : ¬ ((fl : Int) + 1 = 0) := by omega
                  have f1 : (fl : Int) + 1 - 1 = fl := by omega
                  rw [e0]
                  cases b1 : withinD 0 (cols - 1) c with
                  | false =>
                    rw [b1] at e1
                    simp [mFun, P_b_is_tree_on, isTuple, neq, q0, isStr, lim5, eqq, f0, permL, e1, endR]
                  | true =>
                    rw [b1] at e1
                    cases b2 : ratioD cut with
                    | false =>
                      rw [b2] at e2
                      simp [mFun, P_b_is_tree_on, isTuple, neq, q0, isStr, lim5, eqq, f0, permL, e1, e2, endR]
                    | true =>
                      rw [b2] at e2
                      cases b3 : treeD cols fl y with
                      | false =>
                        rw [b3] at e3
                        simp [mFun, P_b_is_tree_on, isTuple, neq, q0, isStr, lim5, eqq, f0, f1, permL, e1, e2, e3, endR]
                      | true =>
                        rw [b3] at e3
                        simp [mFun, P_b_is_tree_on, isTuple, neq, q0, isStr, lim5, eqq, f0, f1, permL, e1, e2, e3, e4, endR]
            · have e0 : treeD cols fl (.tup (.str "test" :: rest)) = false := by
                unfold treeD
                rw [if_neg hl, if_pos rfl]
                split
                · simp at h4
                · rfl
              have h4' : ¬ ((rest.length : Int) = 4) := by omega
              rw [e0]
              simp [mFun, P_b_is_tree_on, isTuple, neq, q0, isStr, l1, eqq, h4', endR]
          · have e0 : treeD cols fl (.tup (.str w :: rest)) = false := by
              unfold treeD; rw [if_neg hl, if_neg hte]
            have eqq : cmpop .Eq (.str w) (.str "leaf") g = .ok (.bl false) g := eqS_no hlq
            have nqq : cmpop .NotEq (.str w) (.str "test") g = .ok (.bl true) g := by
              have : (w == ("test" : Str)) = false := by simpa using hte
              rw [ne_ap]
              simp [okE, strD, eqD, this, guardR]
            rw [e0]
            simp [mFun, P_b_is_tree_on, isTuple, neq, q0, isStr, l1, eqq, nqq, endR]
      · have hs : strD x = false := by simpa using hs
        rw [treeD_no hs]
        have isx : isStr x = some false := by
          have := hx.ok
          cases x <;> first | rfl | (simp [strD] at hs; done) | (simp [okD] at this; done)
        simp [mFun, P_b_is_tree_on, isTuple, neq, q0, hx.deref, isx, endR]
  | non => exact notTup (fun _ q => nomatch q)
  | bl b => exact notTup (fun _ q => nomatch q)
  | int b => exact notTup (fun _ q => nomatch q)
  | str b => exact notTup (fun _ q => nomatch q)
  | lst b => exact notTup (fun _ q => nomatch q)
  | loc b => exact notTup (fun _ q => nomatch q)
  | fn b => exact notTup (fun _ q => nomatch q)
  | arr b => exact notTup (fun _ q => nomatch q)
end GL
/-! GL part 33: bools reckoned with as whole numbers, str of a whole number or a bool. -/
namespace GL
open PySem L2 PyProof.Rows
def boI (b : Bool) : Int := if b = true then 1 else 0
noncomputable def binopW : Operator → D → D → Gh → R D
  | .Add, .int i, .int j, g => .ok (.int (i + j)) g
  | .Add, .bl b, .int j, g => .ok (.int (boI b + j)) g
  | .Mult, .int i, .int j, g => guardR (mulOk i j) (.int (i * j)) g
  | .Mult, .bl b, .int j, g => .ok (.int (boI b * j)) g
  | _, _, _, _ => .bad
noncomputable def eBinW (op : Operator) (a b : ME) : ME := fun env g => (a env g).bind fun x g1 => (b env g1).bind fun y g2 => binopW op x y g2
def negopW : D → Gh → R D
  | .int i, g => .ok (.int (-i)) g
  | .bl b, g => .ok (.int (-(boI b))) g
  | _, _ => .bad
def eNegW (a : ME) : ME := fun env g => (a env g).bind negopW
def shI (i : Int) : Str := Str.ofString (toString i)
def shB (b : Bool) : Str := if b then "True" else "False"
def oStr : List D → Gh → R D
  | [.int i], g => guardR (decide (i.natAbs.log2 < 1920)) (.str (shI i)) g
  | [.bl b], g => .ok (.str (shB b)) g
  | _, _ => .bad
section
variable {M : Im} {W : XW} {X : Cx} {k : Nat}
theorem op_add_bi : OpR X (binaryOp .Add) (fun x y H Q => ∃ b j, x = .bl b ∧ y = .int j ∧ Q (.int (boI b + j)) H) := by
  intro pins s σ H x y v u Q I rx ry h
  obtain ⟨b, j, rfl, rfl, q⟩ := h
  obtain ⟨t, rfl⟩ := ry
  cases rx
  exact PySem.IntBool.add_bool_int ⟨.int (boI b + j), H, I.tok _, ⟨_, rfl⟩, q⟩
theorem op_mul_bi : OpR X (binaryOp .Mult) (fun x y H Q => ∃ b j, x = .bl b ∧ y = .int j ∧ Q (.int (boI b * j)) H) := by
  intro pins s σ H x y v u Q I rx ry h
  obtain ⟨b, j, rfl, rfl, q⟩ := h
  obtain ⟨t, rfl⟩ := ry
  cases rx
  exact PySem.IntBool.mul_bool_int ⟨.int (boI b * j), H, I.tok _, ⟨_, rfl⟩, q⟩
theorem gives_int_neg_bool (b : Bool) : Gives (Builtin.«int.__neg__» ⟨[.bool b], []⟩) (.int (-(if b = true then (1 : Int) else 0))) := .of_eq rfl
theorem un_negW : UnR X (unaryOp .USub) (fun x H Q => (∃ i, x = .int i ∧ Q (.int (-i)) H) ∨ ∃ b, x = .bl b ∧ Q (.int (-(boI b))) H) := by
  intro pins s σ H x v Q I rx h
  rcases h with ⟨i, rfl, q⟩ | ⟨b, rfl, q⟩
  · obtain ⟨t, rfl⟩ := rx
    exact PySem.P.neg_int ⟨.int (-i), H, I.tok _, ⟨_, rfl⟩, q⟩
  · cases rx
    exact unaryOp_gives (op := .USub) (T := "bool") rfl rfl F.slot_bool_neg F.entry_int_neg (F.args_int_neg_1 _) (gives_int_neg_bool b) ⟨.int (-(boI b)), H, I.tok _, ⟨_, rfl⟩, q⟩
theorem call_strW : CallR X (.type "str") (fun xs H Q => (∃ i, xs = [.int i] ∧ i.natAbs.log2 < 1920 ∧ Q (.str (shI i)) H) ∨ ∃ b, xs = [.bl b] ∧ Q (.str (shB b)) H) := by
  intro pins s σ H xs us Q I r h
  rcases h with ⟨i, rfl, hz, q⟩ | ⟨b, rfl, q⟩
  · obtain ⟨u, rfl, t, rfl⟩ := vals1 r
    exact PySem.P.str_of_int hz ⟨.str _, H, I.tok _, ⟨_, rfl⟩, q⟩
  · obtain ⟨u, rfl, r1⟩ := vals1 r
    cases r1
    exact PySem.P.str_of_bool ⟨.str (shB b), H, I.tok _, ⟨_, rfl⟩, q⟩
theorem str_ok : CallOk M W X (.type "str") oStr := by
  refine ⟨_, call_strW, fun w fr env G σ H Q ds vs r hd h => ?_⟩
  unfold oStr at h
  split at h
  · obtain ⟨v, rfl, q⟩ := DVs.one_inv hd
    cases q
    obtain ⟨hb, h⟩ := guard_post (α := D) h
    exact .inl ⟨_, rfl, of_decide_eq_true hb, Post.here h r _ (.str _)⟩
  · obtain ⟨v, rfl, q⟩ := DVs.one_inv hd
    cases q
    exact .inr ⟨_, rfl, Post.here h r _ (.str _)⟩
  · exact h.elim
variable {a b c : Expr} {ma mb mc : ME} {pos : Pos}
theorem binopW_ok (g : GX M k X) (op : Operator) : OpOk M W X (binaryOp op) (binopW op) := by
  have never : ∀ f : Value → Value → Sem Value, OpR X f (fun _ _ _ _ => False) := fun f _ _ _ _ _ _ _ _ _ _ _ _ h => h.elim
  cases op with
  | Add =>
    refine ⟨_, op_add.or op_add_bi, fun w fr env G σ H Q x y vx vy r hx hy h => ?_⟩
    cases x <;> cases y <;> try exact h.elim
    · cases hx; cases hy
      exact .inr ⟨_, _, rfl, rfl, Post.here h r _ (.int _)⟩
    · cases hx; cases hy
      exact .inl ⟨_, _, rfl, rfl, Post.here h r _ (.int _)⟩
  | Mult =>
    refine ⟨_, (op_mul.or op_mulW).or op_mul_bi, fun w fr env G σ H Q x y vx vy r hx hy h => ?_⟩
    cases x <;> cases y <;> try exact h.elim
    · cases hx; cases hy
      exact .inr ⟨_, _, rfl, rfl, Post.here h r _ (.int _)⟩
    · cases hx; cases hy
      obtain ⟨hb, h⟩ := guard_post (α := D) h
      have hb := tru_iff.mp hb
      rcases hb with (hb | hb) | hb
      · exact .inl (.inl ⟨_, _, rfl, rfl, .inl hb, Post.here h r _ (.int _)⟩)
      · exact .inl (.inl ⟨_, _, rfl, rfl, .inr hb, Post.here h r _ (.int _)⟩)
      · exact .inl (.inr ⟨_, _, rfl, rfl, hb, Post.here h r _ (.int _)⟩)
  | _ => exact ⟨_, never _, fun w fr env G σ H Q x y vx vy r hx hy h => by unfold binopW at h; exact h⟩
theorem se_binW (g : GX M k X) {op : Operator} (ha : SE M W X a ma) (hb : SE M W X b mb) : SE M W X (.BinOp a op b pos) (eBinW op ma mb) := by
  obtain ⟨r, o1, o2⟩ := binopW_ok (W := W) g op
  obtain ⟨ta, a1, a2⟩ := ha
  obtain ⟨tb, b1, b2⟩ := hb
  refine ⟨_, pe_op o1 a1 b1, fun w fr env G σ H Q rs h => ?_⟩
  refine a2 w fr env G σ H _ rs ((Post.bind h).imp fun x w1 G1 H1 l1 r1 h1 vx dx => ?_)
  refine b2 w1 fr env G1 σ H1 _ r1 ((Post.bind h1).imp fun y w2 G2 H2 l2 r2 h2 vy dy => ?_)
  exact o2 w2 fr env G2 σ H2 Q x y vx vy r2 (dx.up l2) dy h2
theorem se_negW (g : GX M k X) (ha : SE M W X a ma) : SE M W X (.UnaryOp .USub a pos) (eNegW ma) := by
  obtain ⟨ta, a1, a2⟩ := ha
  refine ⟨_, pe_un un_negW a1, fun w fr env G σ H Q rs h => ?_⟩
  refine a2 w fr env G σ H _ rs ((Post.bind h).imp fun x w1 G1 H1 l1 r1 h1 vx dx => ?_)
  cases dx <;> try exact h1.elim
  · exact .inr ⟨_, rfl, Post.here h1 r1 _ (.int _)⟩
  · exact .inl ⟨_, rfl, Post.here h1 r1 _ (.int _)⟩
end
section
variable {c : Cn} {W : XW} {N : List Str} {sc : Scope} {fnf : Str → Bool} {X : Cx} {a b : Expr} {ma mb : ME} {pos : Pos}
theorem w_binW (o : OkX c N sc fnf X) {op : Operator} (ha : SE c.M W X a ma) (hb : SE c.M W X b mb) : SE c.M W X (.BinOp a op b pos) (eBinW op ma mb) := se_binW o.g ha hb
theorem w_negW (o : OkX c N sc fnf X) (ha : SE c.M W X a ma) : SE c.M W X (.UnaryOp .USub a pos) (eNegW ma) := se_negW o.g ha
end
@[simp] theorem eBinW_ap {op : Operator} {a b : ME} {env : Env'} {g : Gh} : eBinW op a b env g = (a env g).bind fun x g1 => (b env g1).bind fun y g2 => binopW op x y g2 := rfl
@[simp] theorem eNegW_ap {a : ME} {env : Env'} {g : Gh} : eNegW a env g = (a env g).bind negopW := rfl
end GL
/-! GL part 34: the law's own look at trees. -/
namespace GL
open PySem L2
noncomputable def P_ce__law_is_ratio_1 : ME := eAnd (eIsi isInt (eLv 1)) (eNot (tV (eIsi isBool (eLv 1))))
noncomputable def P_b__law_is_ratio (c__law_ratio : FM) : MS := sSeq (sIf (tOr (tNot (tV (eIsi isTuple (eLv 0)))) (tV (eCmp .NotEq (eBi oLen (lCons (eLv 0) (lNil))) (eC (.int 2))))) (sRet (eC (.bl false))) (sSkip)) (sSeq (sIf (tNot (tV (eBi oAll (lCons (eNew (lComp (iV (eLv 0)) (gNm 1) (tTrue) (P_ce__law_is_ratio_1) [1])) (lNil))))) (sRet (eC (.bl false))) (sSkip)) (sRet (eAnd (eCmp .Gt (eSub (eLv 0) (eC (.int 1))) (eC (.int 0))) (eCmp .Eq (eCall c__law_ratio 2 0 [0, 1] [] (lCons (eSub (eLv 0) (eC (.int 0))) (lCons (eSub (eLv 0) (eC (.int 1))) (lNil))) (lNil)) (eLv 0)))))
noncomputable def P_b__law_is_tree (c__law_is_ratio : FM) (c__law_is_tree : FM) : MS := sSeq (sIf (tOr (tNot (tV (eIsi isTuple (eLv 0)))) (tOr (tV (eCmp .Eq (eLv 0) (eTup (lNil)))) (tNot (tV (eIsi isStr (eSub (eLv 0) (eC (.int 0)))))))) (sRet (eC (.bl false))) (sSkip)) (sSeq (sIf (tV (eCmp .Eq (eSub (eLv 0) (eC (.int 0))) (eC (.str "leaf")))) (sRet (eAnd (eCmp .Eq (eBi oLen (lCons (eLv 0) (lNil))) (eC (.int 2))) (eCall c__law_is_ratio 1 0 [0] [] (lCons (eSub (eLv 0) (eC (.int 1))) (lNil)) (lNil)))) (sSkip)) (sSeq (sIf (tOr (tV (eCmp .NotEq (eSub (eLv 0) (eC (.int 0))) (eC (.str "test")))) (tOr (tV (eCmp .NotEq (eBi oLen (lCons (eLv 0) (lNil))) (eC (.int 5)))) (tOr (tV (eCmp .Eq (eLv 2) (eC (.int 0)))) (tNot (tV (eCall c__law_is_ratio 1 0 [0] [] (lCons (eSub (eLv 0) (eC (.int 2))) (lNil)) (lNil))))))) (sRet (eC (.bl false))) (sSkip)) (sSeq (sIf (tOr (tNot (tV (eIsi isInt (eSub (eLv 0) (eC (.int 1)))))) (tOr (tV (eIsi isBool (eSub (eLv 0) (eC (.int 1))))) (tNot (tV (eChain .LtE .Lt (eC (.int 0)) (eSub (eLv 0) (eC (.int 1))) (eLv 1)))))) (sRet (eC (.bl false))) (sSkip)) (sRet (eAnd (eCall c__law_is_tree 3 0 [0, 1, 2] [] (lCons (eSub (eLv 0) (eC (.int 3))) (lCons (eLv 1) (lCons (eBin .Sub (eLv 2) (eC (.int 1))) (lNil)))) (lNil)) (eCall c__law_is_tree 3 0 [0, 1, 2] [] (lCons (eSub (eLv 0) (eC (.int 4))) (lCons (eLv 1) (lCons (eBin .Sub (eLv 2) (eC (.int 1))) (lNil)))) (lNil)))))))
noncomputable def P_b__law_near (c__law_take : FM) : MS := sSeq (sSet 2 (eNew (fLst (lCons (eC .non) (lCons (eTup (lNil)) (lCons (eC (.int 0)) (lCons (eC (.int 1)) (lCons (eC (.bl true)) (lCons (eC (.str "leaf")) (lCons (eC (.str "test")) (lCons (eNew (fLst (lCons (eLv 1) (lNil)))) (lCons (eTup (lCons (eLv 1) (lNil))) (lCons (eTup (lCons (eC (.int 0)) (lCons (eC (.int 2)) (lNil)))) (lCons (eTup (lCons (eC (.int 2)) (lCons (eC (.int 4)) (lNil)))) (lCons (eTup (lCons (eC (.int 1)) (lCons (eNeg (eC (.int 1))) (lNil)))) (lCons (eTup (lCons (eC (.int 1)) (lCons (eC (.int 0)) (lNil)))) (lCons (eTup (lCons (eC (.int 0)) (lCons (eC (.int 1)) (lNil)))) (lCons (eTup (lCons (eC (.bl true)) (lCons (eC (.int 1)) (lNil)))) (lNil))))))))))))))))))) (sSeq (sIf (tV (eIsi isInt (eLv 1))) (sSet 2 (eBin .Add (eCut (eLv 2) (oNone) (oSome (eC (.int 7)))) (eNew (fLst (lCons (eBinW .Add (eLv 1) (eC (.int 1))) (lCons (eNegW (eLv 1)) (lCons (eBinW .Mult (eLv 1) (eC (.int 2))) (lCons (eCmp .Eq (eLv 1) (eC (.int 1))) (lCons (eBi oStr (lCons (eLv 1) (lNil))) (lCons (eTup (lCons (eLv 1) (lCons (eC (.int 1)) (lNil)))) (lCons (eC (.int 8)) (lCons (eNeg (eC (.int 1))) (lNil))))))))))))) (sSkip)) (sRet (eSub (eLv 2) (eCall c__law_take 2 0 [0, 1] [] (lCons (eLv 0) (lCons (eC (.int 15)) (lNil))) (lNil)))))
noncomputable def P_b__law_bent (c__law_take : FM) (c__law_near : FM) (c__law_bent : FM) : MS := sSeq (sIf (tOr (tNot (tV (eIsi isTuple (eLv 1)))) (tOr (tV (eCmp .Eq (eLv 1) (eTup (lNil)))) (tV (eCmp .Eq (eCall c__law_take 2 0 [0, 1] [] (lCons (eLv 0) (lCons (eC (.int 8)) (lNil))) (lNil)) (eC (.int 0)))))) (sRet (eCall c__law_near 2 0 [0, 1] [] (lCons (eLv 0) (lCons (eLv 1) (lNil))) (lNil))) (sSkip)) (sSeq (sPar 2 3 (lCons (eCall c__law_take 2 0 [0, 1] [] (lCons (eLv 0) (lCons (eBi oLen (lCons (eLv 1) (lNil))) (lNil))) (lNil)) (lCons (eCall c__law_take 2 0 [0, 1] [] (lCons (eLv 0) (lCons (eC (.int 10)) (lNil))) (lNil)) (lNil)))) (sSeq (sIf (tV (eCmp .Eq (eLv 3) (eC (.int 0)))) (sRet (eBin .Add (eCut (eLv 1) (oNone) (oSome (eLv 2))) (eCut (eLv 1) (oSome (eBin .Add (eLv 2) (eC (.int 1)))) (oNone)))) (sSkip)) (sSeq (sIf (tV (eCmp .Eq (eLv 3) (eC (.int 1)))) (sRet (eBin .Add (eBin .Add (eCut (eLv 1) (oNone) (oSome (eLv 2))) (eTup (lCons (eSub (eLv 1) (eLv 2)) (lNil)))) (eCut (eLv 1) (oSome (eLv 2)) (oNone)))) (sSkip)) (sSeq (sIf (tV (eCmp .Eq (eLv 3) (eC (.int 2)))) (sRet (eNew (lBi oListF (lCons (eLv 1) (lNil))))) (sSkip)) (sSeq (sIf (tV (eCmp .Eq (eLv 3) (eC (.int 3)))) (sRet (eBin .Add (eBin .Add (eCut (eLv 1) (oNone) (oSome (eLv 2))) (eTup (lCons (eSub (eLv 1) (eCall c__law_take 2 0 [0, 1] [] (lCons (eLv 0) (lCons (eBi oLen (lCons (eLv 1) (lNil))) (lNil))) (lNil))) (lNil)))) (eCut (eLv 1) (oSome (eBin .Add (eLv 2) (eC (.int 1)))) (oNone)))) (sSkip)) (sRet (eBin .Add (eBin .Add (eCut (eLv 1) (oNone) (oSome (eLv 2))) (eTup (lCons (eCall c__law_bent 2 0 [0, 1] [] (lCons (eLv 0) (lCons (eSub (eLv 1) (eLv 2)) (lNil))) (lNil)) (lNil)))) (eCut (eLv 1) (oSome (eBin .Add (eLv 2) (eC (.int 1)))) (oNone)))))))))
noncomputable def P_b__law_good (c_is_tree : FM) (c__law_is_tree : FM) : MS := sSeq (sSet 2 (eCall c_is_tree 2 0 [0, 1] [] (lCons (eLv 0) (lCons (eLv 1) (lNil))) (lNil))) (sSeq (sIf (tOr (tNot (tV (eIsi isBool (eLv 2)))) (tV (eCmp .NotEq (eLv 2) (eCall c__law_is_tree 3 0 [0, 1, 2] [] (lCons (eLv 0) (lCons (eLv 1) (lCons (eC (.int 8)) (lNil)))) (lNil))))) (sRet (eC (.bl false))) (sSkip)) (sRet (eCmp .Eq (eCall c_is_tree 0 2 [1, 0] [] (lNil) (lCons (eLv 1) (lCons (eLv 0) (lNil)))) (eLv 2))))
theorem eq_low {a b : Int} (hb : 0 < b) : eqD (dR (Rat.divInt a b)) (.tup [.int a, .int b]) = decide (Int.gcd a b = 1) := by
  by_cases h : Int.gcd a b = 1
  · rw [dR_lit hb h, decide_eq_true h]
    simp [eqD, eqDs, dR]
  · rw [decide_eq_false h, Bool.eq_false_iff]
    intro e
    have e : (Rat.divInt a b).num = a ∧ ((Rat.divInt a b).den : Int) = b := by simpa [eqD, eqDs, dR] using e
    have c := (Rat.divInt a b).reduced
    apply h
    have e1 : Int.gcd (Rat.divInt a b).num ((Rat.divInt a b).den : Int) = 1 := by simpa [Int.gcd] using c
    rw [e.1, e.2] at e1
    exact e1
theorem all2 (x y : Bool) (g : Gh) : oAll [.lst [.bl x, .bl y]] g = .ok (.bl (x && y)) g := by cases x <;> cases y <;> rfl
theorem lratio_spec {K : Nat} {rt : FM} (hK : K ≤ 60) (hr : RatF rt) : RatioF K (mFun 1 2 (P_b__law_is_ratio rt)) := fun d g h => by
  have hd := h.deref (g := g)
  cases d with
  | tup xs =>
    match xs, h with
    | [], h => simp [mFun, P_b__law_is_ratio, isTuple, ratioD, endR]
    | [a], h => simp [mFun, P_b__law_is_ratio, isTuple, ratioD, endR]
    | a :: b :: c' :: r, h =>
      have : ¬ ((r.length : Int) + 1 + 1 + 1 = 2) := by omega
      have e0 : ratioD (.tup (a :: b :: c' :: r)) = false := by cases a <;> cases b <;> rfl
      rw [e0]
      simp [mFun, P_b__law_is_ratio, isTuple, endR, this]
    | [a, b], h =>
      have ha := h.item (x := a) (by simp)
      have hb := h.item (x := b) (by simp)
      have q0 : atI [a, b] 0 = some a := rfl
      have q1 : atI [a, b] 1 = some b := rfl
      have cm : ∀ (env : Env') (g : Gh), env.length = 2 → compL none (gNm 1) tTrue P_ce__law_is_ratio_1 [a, b] env g = .ok [.bl (wholeD a), .bl (wholeD b)] g := fun env g hl => by
        refine compL_map (tg := gNm 1) (t := tTrue) (e := P_ce__law_is_ratio_1) (env := env) (g := g) (fun _ => true) (fun d => .bl (wholeD d)) [a, b] (fun dd hdd => ?_)
        refine ⟨_, rfl, ?_, fun _ => ?_⟩
        · simp
        · have hdd' : AnyD K dd := by
            simp at hdd
            rcases hdd with rfl | rfl
            · exact ha
            · exact hb
          have hq := hdd'.deref (g := g)
          have ho := hdd'.ok
          cases dd <;> first
            | (simp [okD] at ho; done)
            | simp [P_ce__law_is_ratio_1, hl, hq, isInt, isBool, wholeD]
      have lim2 : (2 : Nat) ≤ LIM := by decide
      by_cases hz : (wholeD a && wholeD b) = true
      · cases a <;> simp [wholeD] at hz
        cases b <;> simp [wholeD] at hz
        rename_i i j
        have al := all2 true true g
        simp only [wholeD] at cm
        by_cases hj : 0 < j
        · have bj : Bd 60 j := by
            have hbd := hb.bd
            have : j.natAbs < 2 ^ K := by simpa [bdD] using hbd
            exact (show Bd K j from this).mono hK
          have e := hr i j g hj bj
          have eqq : cmpop .Eq (dR (Rat.divInt i j)) (.tup [.int i, .int j]) g = .ok (.bl (decide (Int.gcd i j = 1))) g := by
            have o1 : okD (dR (Rat.divInt i j)) 64 = true := rfl
            have o2 : okD (.tup [.int i, .int j]) 64 = true := rfl
            rw [eq_ap, okD_deref o1, okD_deref o2, okE_ok o1 o2, eq_low hj]; rfl
          have e0 : ratioD (.tup [.int i, .int j]) = decide (Int.gcd i j = 1) := by simp [ratioD, hj]
          rw [e0]
          simp [mFun, P_b__law_is_ratio, isTuple, cm, blkE, wipeE, lim2, al, q0, q1, hj, permL, e, eqq, endR]
        · have e0 : ratioD (.tup [.int i, .int j]) = false := by simp [ratioD, hj]
          rw [e0]
          simp [mFun, P_b__law_is_ratio, isTuple, cm, blkE, wipeE, lim2, al, q0, q1, hj, endR]
      · have hz : (wholeD a && wholeD b) = false := by simpa using hz
        have al := all2 (wholeD a) (wholeD b) g
        rw [hz] at al
        have e0 : ratioD (.tup [a, b]) = false := by
          cases a <;> first | rfl | (cases b <;> first | rfl | (simp [wholeD] at hz))
        rw [e0]
        simp [mFun, P_b__law_is_ratio, isTuple, cm, blkE, wipeE, lim2, al, endR]
  | non => simp [mFun, P_b__law_is_ratio, isTuple, ratioD, endR]
  | bl b => simp [mFun, P_b__law_is_ratio, isTuple, ratioD, endR]
  | int b => simp [mFun, P_b__law_is_ratio, isTuple, ratioD, endR]
  | str b => simp [mFun, P_b__law_is_ratio, isTuple, ratioD, endR]
  | lst b => simp [mFun, P_b__law_is_ratio, isTuple, ratioD, endR]
  | loc b => have := h.ok; simp [okD] at this
  | fn b => have := h.ok; simp [okD] at this
  | arr b => have := h.ok; simp [okD] at this
theorem ltree_on_spec {K fl : Nat} {ra tr : FM} (hr : RatioF K ra) (ht : ∀ fl', fl = fl' + 1 → TreeOnF K fl' tr) : TreeOnF K fl (mFun 3 3 (P_b__law_is_tree ra tr)) := fun d cols g h => by
  have notTup : (∀ xs, d ≠ .tup xs) → mFun 3 3 (P_b__law_is_tree ra tr) [d, .int cols, .int fl] g = .ok (.bl (treeD cols fl d)) g := fun hne => by
    have e0 : treeD cols fl d = false := by
      cases d <;> first | (cases fl <;> rfl) | exact absurd rfl (hne _)
    rw [e0]
    have hd := h.deref (g := g)
    cases d <;> first | exact absurd rfl (hne _) | (have := h.ok; simp [okD] at this; done) | simp [mFun, P_b__law_is_tree, isTuple, endR]
  cases d with
  | tup xs =>
    cases xs with
    | nil =>
      have e0 : treeD cols fl (.tup []) = false := by cases fl <;> rfl
      have eq : cmpop .Eq (.tup []) (.tup []) g = .ok (.bl true) g := eq_same rfl
      rw [e0]
      simp [mFun, P_b__law_is_tree, isTuple, eq, endR]
    | cons x rest =>
      have okx : okD (.tup (x :: rest)) 64 = true := h.ok
      have neq : cmpop .Eq (.tup (x :: rest)) (.tup []) g = .ok (.bl false) g := by
        have ok0 : okD (.tup []) 64 = true := rfl
        rw [eq_ap, okD_deref okx, okD_deref ok0, okE_ok okx ok0]; rfl
      have q0 : atI (x :: rest) 0 = some x := by simp [atI, ixN]
      have hx := h.item (x := x) (by simp)
      by_cases hs : strD x = true
      · cases x <;> simp [strD] at hs
        rename_i w
        have hlen := h.len
        have l1 : rest.length + 1 ≤ LIM := by simpa using hlen
        have hin : ∀ y ∈ rest, AnyD K y := fun y hy => h.item (List.mem_cons_of_mem _ hy)
        by_cases hl : w = "leaf"
        · subst hl
          match rest, hin, l1, q0, neq with
          | [], hin, l1, q0, neq =>
            have e0 : treeD cols fl (.tup [.str "leaf"]) = false := by cases fl <;> rfl
            rw [e0]
            simp [mFun, P_b__law_is_tree, isTuple, neq, q0, isStr, endR]
          | [r], hin, l1, q0, neq =>
            have e0 : treeD cols fl (.tup [.str "leaf", r]) = ratioD r := by cases fl <;> rfl
            rw [e0]
            have er := hr r g (hin r (by simp))
            have a0 : atI [D.str "leaf", r] 1 = some r := rfl
            simp [mFun, P_b__law_is_tree, isTuple, neq, q0, isStr, permL, a0, er, endR]
          | r :: r' :: rs, hin, l1, q0, neq =>
            have e0 : treeD cols fl (.tup (.str "leaf" :: r :: r' :: rs)) = false := by unfold treeD; rfl
            rw [e0]
            have : ¬ ((rs.length : Int) + 1 + 1 + 1 = 2) := by omega
            simp [mFun, P_b__law_is_tree, isTuple, neq, q0, isStr, this, endR]
        · have hlq : (w == ("leaf" : Str)) = false := by simpa using hl
          by_cases hte : w = "test"
          · subst hte
            have eqq : cmpop .Eq (.str "test") (.str "leaf") g = .ok (.bl false) g := eqS_no str_test_leaf
            by_cases h4 : rest.length = 4
            · match rest, h4, hin, l1, q0, neq with
              | [c, cut, y, z], _, hin, l1, q0, neq =>
                have lim5 : (5 : Nat) ≤ LIM := by decide
                cases fl with
                | zero =>
                  have e0 : treeD cols 0 (.tup [.str "test", c, cut, y, z]) = false := by
                    unfold treeD; rw [if_neg hl, if_pos rfl]
                  rw [e0]
                  simp [mFun, P_b__law_is_tree, isTuple, neq, q0, isStr, lim5, eqq, endR]
                | succ fl =>
                  have e0 : treeD cols (fl + 1) (.tup [.str "test", c, cut, y, z]) = (withinD 0 (cols - 1) c && ratioD cut && treeD cols fl y && treeD cols fl z) := by
                    conv => lhs; unfold treeD
                    rw [if_neg hl, if_pos rfl]
                  have e2 := hr cut g (hin cut (by simp))
                  have e3 := ht fl rfl y cols g (hin y (by simp))
                  have e4 := ht fl rfl z cols g (hin z (by simp))
                  have f0 : ¬ ((fl : Int) + 1 = 0) := by omega
                  have f1 : (fl : Int) + 1 - 1 = fl := by omega
                  have i1 : atI [D.str "test", c, cut, y, z] 1 = some c := rfl
                  have i2 : atI [D.str "test", c, cut, y, z] 2 = some cut := rfl
                  have i3 : atI [D.str "test", c, cut, y, z] 3 = some y := rfl
                  have i4 : atI [D.str "test", c, cut, y, z] 4 = some z := rfl
                  have hc := hin c (by simp)
                  have dc := hc.deref (g := g)
                  rw [e0]
                  cases b2 : ratioD cut with
                  | false =>
                    rw [b2] at e2
                    simp [mFun, P_b__law_is_tree, isTuple, neq, q0, isStr, eqq, f0, permL, i2, e2, endR]
                  | true =>
                    rw [b2] at e2
                    have no : wholeD c = false → mFun 3 3 (P_b__law_is_tree ra tr) [.tup [.str "test", c, cut, y, z], .int cols, .int ((fl + 1 : Nat) : Int)] g = .ok (.bl (withinD 0 (cols - 1) c && true && treeD cols fl y && treeD cols fl z)) g := fun hno => by
                      have ho := hc.ok
                      cases c <;> first
                        | (simp [okD] at ho; done)
                        | (simp [wholeD] at hno; done)
                        | simp [mFun, P_b__law_is_tree, isTuple, neq, q0, isStr, eqq, f0, permL, i1, i2, e2, dc, isInt, isBool, withinD, endR]
                    cases c with
                    | int i =>
                      by_cases g0 : 0 ≤ i
                      · by_cases g1 : i < cols
                        · have w1 : withinD 0 (cols - 1) (.int i) = true := by simp [withinD, g0]; omega
                          rw [w1]
                          cases b3 : treeD cols fl y with
                          | false =>
                            rw [b3] at e3
                            simp [mFun, P_b__law_is_tree, isTuple, neq, q0, isStr, eqq, f0, f1, permL, i1, i2, i3, i4, e2, e3, isInt, isBool, g0, g1, endR]
                          | true =>
                            rw [b3] at e3
                            simp [mFun, P_b__law_is_tree, isTuple, neq, q0, isStr, eqq, f0, f1, permL, i1, i2, i3, i4, e2, e3, e4, isInt, isBool, g0, g1, endR]
                        · have w1 : withinD 0 (cols - 1) (.int i) = false := by simp [withinD, g0]; omega
                          rw [w1]
                          simp [mFun, P_b__law_is_tree, isTuple, neq, q0, isStr, eqq, f0, f1, permL, i1, i2, i3, i4, e2, isInt, isBool, g0, g1, endR]
                      · have w1 : withinD 0 (cols - 1) (.int i) = false := by simp [withinD, g0]
                        rw [w1]
                        simp [mFun, P_b__law_is_tree, isTuple, neq, q0, isStr, eqq, f0, f1, permL, i1, i2, i3, i4, e2, isInt, isBool, g0, endR]
                    | non => exact no rfl
                    | bl b => exact no rfl
                    | str b => exact no rfl
                    | tup b => exact no rfl
                    | lst b => exact no rfl
                    | loc b => exact no rfl
                    | fn b => exact no rfl
                    | arr b => exact no rfl
            · have e0 : treeD cols fl (.tup (.str "test" :: rest)) = false := by
                unfold treeD
                rw [if_neg hl, if_pos rfl]
                split
                · simp at h4
                · rfl
              have h4' : ¬ ((rest.length : Int) + 1 = 5) := by omega
              rw [e0]
              simp [mFun, P_b__law_is_tree, isTuple, neq, q0, isStr, eqq, h4', endR]
          · have e0 : treeD cols fl (.tup (.str w :: rest)) = false := by
              unfold treeD; rw [if_neg hl, if_neg hte]
            have eqq : cmpop .Eq (.str w) (.str "leaf") g = .ok (.bl false) g := eqS_no hlq
            have nqq : cmpop .NotEq (.str w) (.str "test") g = .ok (.bl true) g := by
              have : (w == ("test" : Str)) = false := by simpa using hte
              rw [ne_ap]
              simp [okE, strD, eqD, this, guardR]
            rw [e0]
            simp [mFun, P_b__law_is_tree, isTuple, neq, q0, isStr, eqq, nqq, endR]
      · have hs : strD x = false := by simpa using hs
        rw [treeD_no hs]
        have isx : isStr x = some false := by
          have := hx.ok
          cases x <;> first | rfl | (simp [strD] at hs; done) | (simp [okD] at this; done)
        simp [mFun, P_b__law_is_tree, isTuple, neq, q0, hx.deref, isx, endR]
  | non => exact notTup (fun _ q => nomatch q)
  | bl b => exact notTup (fun _ q => nomatch q)
  | int b => exact notTup (fun _ q => nomatch q)
  | str b => exact notTup (fun _ q => nomatch q)
  | lst b => exact notTup (fun _ q => nomatch q)
  | loc b => exact notTup (fun _ q => nomatch q)
  | fn b => exact notTup (fun _ q => nomatch q)
  | arr b => exact notTup (fun _ q => nomatch q)
end GL
/-! GL part 35: data put otherwise. -/
namespace GL
open PySem L2
mutual
theorem bdD_up : ∀ (d : D) (n m : Nat), n ≤ m → bdD n d = true → bdD m d = true
  | .non, _, _, _, _ => by simp [bdD]
  | .bl _, _, _, _, _ => by simp [bdD]
  | .int i, n, m, hm, h => by
    have h : i.natAbs < 2 ^ n := by simpa [bdD] using h
    have := Nat.pow_le_pow_right (n := 2) (by decide) hm
    simp only [bdD, decide_eq_true_eq]; omega
  | .str x, _, _, _, h => by simp [bdD]
  | .tup xs, n, m, hm, h => by simp only [bdD] at h ⊢; exact bdDs_up xs n m hm h
  | .lst xs, n, m, hm, h => by simp only [bdD] at h ⊢; exact bdDs_up xs n m hm h
  | .loc _, _, _, _, h => by simp [bdD]
  | .fn _, _, _, _, h => by simp [bdD]
  | .arr _, _, _, _, h => by simp [bdD]
theorem bdDs_up : ∀ (ds : List D) (n m : Nat), n ≤ m → bdDs n ds = true → bdDs m ds = true
  | [], _, _, _, _ => by simp [bdDs]
  | d :: ds, n, m, hm, h => by
    have h : bdD n d = true ∧ bdDs n ds = true := by simpa [bdDs] using h
    simp only [bdDs, bdD_up d n m hm h.1, bdDs_up ds n m hm h.2, Bool.and_self]
end
theorem okDs_app : ∀ (xs ys : List D) (n : Nat), okDs (xs ++ ys) n = (okDs xs n && okDs ys n)
  | [], ys, n => by simp [okDs]
  | x :: xs, ys, n => by simp only [List.cons_append, okDs, okDs_app xs ys n, Bool.and_assoc]
theorem bdDs_app (k : Nat) : ∀ (xs ys : List D), bdDs k (xs ++ ys) = (bdDs k xs && bdDs k ys)
  | [], ys => by simp [bdDs]
  | x :: xs, ys => by simp only [List.cons_append, bdDs, bdDs_app k xs ys, Bool.and_assoc]
theorem wtDs_app (k : Nat) : ∀ (xs ys : List D), wtDs k (xs ++ ys) = wtDs k xs + wtDs k ys
  | [], ys => by simp [wtDs]
  | x :: xs, ys => by simp only [List.cons_append, wtDs, wtDs_app k xs ys]; omega
structure Dt (n b s : Nat) (d : D) : Prop where
  ok : okD d n = true
  bd : bdD b d = true
  wt : wtD 44 d ≤ s
theorem Dt.up {n b s n' b' s' : Nat} {d : D} (h : Dt n b s d) (h1 : n ≤ n') (h2 : b ≤ b') (h3 : s ≤ s') : Dt n' b' s' d := ⟨okD_up d n n' h1 h.ok, bdD_up d b b' h2 h.bd, Nat.le_trans h.wt h3⟩
theorem Dt.any {n b s : Nat} {d : D} (h : Dt n b s d) (h1 : n ≤ 64) (h2 : b ≤ 44) (h3 : s ≤ LIM) : AnyD 44 d := ⟨okD_up d n 64 h1 h.ok, bdD_up d b 44 h2 h.bd, Nat.le_trans h.wt h3⟩
theorem Dt.deref {n b s : Nat} {d : D} (h : Dt n b s d) {g : Gh} : deref g d = d := okD_deref h.ok
theorem atI_mem {l : List D} {r : Int} (h0 : 0 ≤ r) (h1 : r < l.length) : ∃ x ∈ l, atI l r = some x := by
  have hr : ((r.toNat : Nat) : Int) = r := by omega
  have hl : r.toNat < l.length := by omega
  refine ⟨l[r.toNat], List.getElem_mem hl, ?_⟩
  have := atI_nat hl
  rw [hr] at this; exact this
theorem strOk_of (s : String) : PyData.strOk (Str.ofString s) = true := by
  unfold PyData.strOk
  rw [Str.ofString_eq_toList]
  simp only [Array.all_eq_true_iff_forall_mem, decide_eq_true_eq]
  intro x hx
  simp only [List.mem_toArray, List.mem_map] at hx
  obtain ⟨c, _, rfl⟩ := hx
  have := c.valid
  have h2 : c.toNat.isValidChar := this
  rcases h2 with h | h
  · exact Nat.lt_trans h (by decide)
  · exact h.2
theorem shI_len {b : Nat} {i : Int} (h0 : 0 < b) (h : Bd b i) : (shI i).length ≤ b + 1 := by
  unfold shI
  rw [PySem.ofString_length]
  exact PySem.int_text_length_le (k := b) h0 (log2_of h0 h)
theorem shB_ok (b : Bool) : PyData.strOk (shB b) = true ∧ (shB b).length ≤ 5 := by
  cases b <;> exact ⟨by decide +kernel, by decide +kernel⟩
def nearA (d : D) : List D := [.non, .tup [], .int 0, .int 1, .bl true, .str "leaf", .str "test", .lst [d], .tup [d], .tup [.int 0, .int 2], .tup [.int 2, .int 4], .tup [.int 1, .int (-1)], .tup [.int 1, .int 0], .tup [.int 0, .int 1], .tup [.bl true, .int 1]]
def nearB (d : D) (i : Int) (q : Bool) (z : Str) : List D := [.non, .tup [], .int 0, .int 1, .bl true, .str "leaf", .str "test", .int (i + 1), .int (-i), .int (i * 2), .bl q, .str z, .tup [d, .int 1], .int 8, .int (-1)]
theorem cut7 {a0 a1 a2 a3 a4 a5 a6 a7 a8 a9 a10 a11 a12 a13 a14 : D} : cutD [a0, a1, a2, a3, a4, a5, a6, a7, a8, a9, a10, a11, a12, a13, a14] none (some 7) = [a0, a1, a2, a3, a4, a5, a6] := rfl
theorem sOk_leaf : PyData.strOk "leaf" = true := by decide +kernel
theorem sOk_test : PyData.strOk "test" = true := by decide +kernel
theorem sLen_leaf : (Str.length "leaf") = 4 := by decide +kernel
theorem sLen_test : (Str.length "test") = 4 := by decide +kernel
theorem Dt.intI {n b s : Nat} {i : Int} (h : Bd b i) (hs : 45 ≤ s) : Dt n b s (.int i) := ⟨by simp [okD], by simpa [bdD] using h, by simpa [wtD] using hs⟩
theorem Dt.int {n b s : Nat} {i : Int} (h : i.natAbs ≤ 8) (hb : 4 ≤ b) (hs : 45 ≤ s) : Dt n b s (.int i) := .intI (Nat.lt_of_le_of_lt h (Nat.lt_of_lt_of_le (by decide : 8 < 2 ^ 4) (Nat.pow_le_pow_right (by decide) hb))) hs
theorem Dt.pair {n b s s1 s2 : Nat} {x y : D} (hx : Dt n b s1 x) (hy : Dt n b s2 y) (hs : s1 + s2 + 7 ≤ s) : Dt (n + 1) b s (.tup [x, y]) := by
  have := hx.wt
  have := hy.wt
  refine ⟨by simp [okD, okDs, hx.ok, hy.ok], by simp [bdD, bdDs, hx.bd, hy.bd], ?_⟩
  simp only [wtD, wtDs]; omega
theorem Dt.one {n b s s1 : Nat} {x : D} (hx : Dt n b s1 x) (hs : s1 + 5 ≤ s) : Dt (n + 1) b s (.tup [x]) ∧ Dt (n + 1) b s (.lst [x]) := by
  have := hx.wt
  refine ⟨⟨by simp [okD, okDs, hx.ok], by simp [bdD, bdDs, hx.bd], ?_⟩, ⟨by simp [okD, okDs, hx.ok], by simp [bdD, bdDs, hx.bd], ?_⟩⟩
  · simp only [wtD, wtDs]; omega
  · simp only [wtD, wtDs]; omega
theorem base7 {n b s : Nat} {x : D} (h : x ∈ [D.non, .tup [], .int 0, .int 1, .bl true, .str "leaf", .str "test"]) (hb : 4 ≤ b) (hs : 500 ≤ s) : Dt (n + 1) b s x := by
  simp only [List.mem_cons, List.not_mem_nil, or_false] at h
  rcases h with rfl | rfl | rfl | rfl | rfl | rfl | rfl
  · exact ⟨rfl, rfl, by simp only [wtD]; omega⟩
  · exact ⟨by simp [okD, okDs], rfl, by simp only [wtD, wtDs]; omega⟩
  · exact .int (by decide) hb (by omega)
  · exact .int (by decide) hb (by omega)
  · exact ⟨rfl, rfl, by simp only [wtD]; omega⟩
  · exact ⟨by simp only [okD]; exact sOk_leaf, rfl, by simp only [wtD]; rw [sLen_leaf]; omega⟩
  · exact ⟨by simp only [okD]; exact sOk_test, rfl, by simp only [wtD]; rw [sLen_test]; omega⟩
theorem nearA_mem {n b s : Nat} {d x : D} (hd : Dt n b s d) (hb : 3 ≤ b) (h : x ∈ nearA d) : Dt (n + 1) (b + 1) (s + 500) x := by
  have hd' := hd.up (Nat.le_refl n) (Nat.le_succ b) (Nat.le_refl s)
  have z : ∀ i : Int, i.natAbs ≤ 8 → Dt n (b + 1) 45 (.int i) := fun i hi => .int hi (by omega) (by omega)
  have h : x ∈ [D.non, .tup [], .int 0, .int 1, .bl true, .str "leaf", .str "test"] ∨ x ∈ [.lst [d], .tup [d], .tup [.int 0, .int 2], .tup [.int 2, .int 4], .tup [.int 1, .int (-1)], .tup [.int 1, .int 0], .tup [.int 0, .int 1], .tup [.bl true, .int 1]] := List.mem_append.mp h
  rcases h with h | h
  · exact base7 h (by omega) (by omega)
  · simp only [List.mem_cons, List.not_mem_nil, or_false] at h
    have tr : Dt n (b + 1) 45 (.bl true) := ⟨by simp [okD], rfl, by simp only [wtD]; omega⟩
    rcases h with rfl | rfl | rfl | rfl | rfl | rfl | rfl | rfl
    · exact (Dt.one hd' (by omega)).2
    · exact (Dt.one hd' (by omega)).1
    · exact .pair (z _ (by decide)) (z _ (by decide)) (by omega)
    · exact .pair (z _ (by decide)) (z _ (by decide)) (by omega)
    · exact .pair (z _ (by decide)) (z _ (by decide)) (by omega)
    · exact .pair (z _ (by decide)) (z _ (by decide)) (by omega)
    · exact .pair (z _ (by decide)) (z _ (by decide)) (by omega)
    · exact .pair tr (z _ (by decide)) (by omega)
theorem nearB_mem {n b s : Nat} {d x : D} {i : Int} {q : Bool} {t : Str} (hd : Dt n b s d) (hb : 3 ≤ b) (hi : Bd b i) (ht : PyData.strOk t = true) (hl : t.length ≤ 45) (h : x ∈ nearB d i q t) : Dt (n + 1) (b + 1) (s + 500) x := by
  have hd' := hd.up (Nat.le_refl n) (Nat.le_succ b) (Nat.le_refl s)
  have z : ∀ i : Int, i.natAbs ≤ 8 → Dt n (b + 1) 45 (.int i) := fun i hi => .int hi (by omega) (by omega)
  have h : x ∈ [D.non, .tup [], .int 0, .int 1, .bl true, .str "leaf", .str "test"] ∨ x ∈ [.int (i + 1), .int (-i), .int (i * 2), .bl q, .str t, .tup [d, .int 1], .int 8, .int (-1)] := List.mem_append.mp h
  have h2 : 2 ^ (b + 1) = 2 * 2 ^ b := by rw [Nat.pow_succ]; omega
  have hi : i.natAbs < 2 ^ b := hi
  rcases h with h | h
  · exact base7 h (by omega) (by omega)
  · simp only [List.mem_cons, List.not_mem_nil, or_false] at h
    rcases h with rfl | rfl | rfl | rfl | rfl | rfl | rfl | rfl
    · exact .intI (show (i + 1).natAbs < 2 ^ (b + 1) by omega) (by omega)
    · exact .intI (show (-i).natAbs < 2 ^ (b + 1) by omega) (by omega)
    · exact .intI (show (i * 2).natAbs < 2 ^ (b + 1) by omega) (by omega)
    · exact ⟨by simp [okD], rfl, by simp only [wtD]; omega⟩
    · exact ⟨by simp only [okD]; exact ht, rfl, by simp only [wtD]; omega⟩
    · exact .pair hd' (z _ (by decide)) (by omega)
    · exact .int (by decide) (by omega) (by omega)
    · exact .int (by decide) (by omega) (by omega)
def NearF (f : FM) : Prop := ∀ (l : Nat) (g : Gh) (d : D) (n b s : Nat), HasBag l g → Dt n b s d → n ≤ 60 → 3 ≤ b → b ≤ 43 → ∃ d' g', HasBag l g' ∧ Dt (n + 1) (b + 1) (s + 500) d' ∧ f [.loc l, d] g = .ok d' g'
theorem eq_d1 {d : D} {n : Nat} {g : Gh} (h : okD d n = true) (hn : n ≤ 64) : cmpop .Eq d (.int 1) g = .ok (.bl (eqD d (.int 1))) g := by
  have o1 := okD_up d n 64 hn h
  have o2 : okD (.int 1) 64 = true := rfl
  rw [eq_ap, okD_deref o1, okD_deref o2, okE_ok o1 o2]; rfl
theorem near_spec {tk : FM} (ht : TakeF tk) : NearF (mFun 2 3 (P_b__law_near tk)) := fun l g d n b s hb hd hn b3 b43 => by
  obtain ⟨r, g', hr, ⟨hb', _⟩, e⟩ := ht l g 15 hb (by decide) (by decide)
  have lim15 : (15 : Nat) ≤ LIM := by decide
  have lim8 : (8 : Nat) ≤ LIM := by decide
  have lim2 : (2 : Nat) ≤ LIM := by decide
  have lim1 : (1 : Nat) ≤ LIM := by decide
  have hdr := hd.deref (g := g)
  have plain : isInt d = some false → ∃ d' g', HasBag l g' ∧ Dt (n + 1) (b + 1) (s + 500) d' ∧ mFun 2 3 (P_b__law_near tk) [.loc l, d] g = .ok d' g' := fun hi => by
    obtain ⟨x, hx, ex⟩ := atI_mem (l := nearA d) hr.1 (by simpa [nearA] using hr.2)
    refine ⟨x, g', hb', nearA_mem hd b3 hx, ?_⟩
    unfold nearA at ex
    simp [mFun, P_b__law_near, hdr, hi, lim15, lim8, lim2, lim1, permL, e, ex, endR]
  cases d with
  | int i =>
    have hi : Bd b i := by
      have := hd.bd
      simpa [bdD] using this
    obtain ⟨x, hx, ex⟩ := atI_mem (l := nearB (.int i) i (decide (i = 1)) (shI i)) hr.1 (by simpa [nearB] using hr.2)
    refine ⟨x, g', hb', nearB_mem hd b3 hi (strOk_of _) (Nat.le_trans (shI_len (by omega) hi) (by omega)) hx, ?_⟩
    unfold nearB at ex
    have m2 : mulOk i 2 = true := mulOk_right (by decide)
    have lg : i.natAbs.log2 < 1920 := by
      have := log2_of (n := b) (by omega) hi
      omega
    simp [mFun, P_b__law_near, hdr, isInt, lim15, lim8, lim2, lim1, cut7, binopW, negopW, oStr, m2, lg, guardR, permL, e, ex, endR]
  | bl c =>
    have hi : Bd b (boI c) := by
      have : 2 ^ 1 ≤ 2 ^ b := Nat.pow_le_pow_right (by decide) (by omega)
      cases c
      · exact (by decide : Bd 1 0).mono (by omega)
      · exact (by decide : Bd 1 1).mono (by omega)
    obtain ⟨x, hx, ex⟩ := atI_mem (l := nearB (.bl c) (boI c) (eqD (.bl c) (.int 1)) (shB c)) hr.1 (by simpa [nearB] using hr.2)
    refine ⟨x, g', hb', nearB_mem hd b3 hi (shB_ok c).1 (Nat.le_trans (shB_ok c).2 (by decide)) hx, ?_⟩
    unfold nearB at ex
    have q1 := eq_d1 (g := g) hd.ok (by omega)
    simp [mFun, P_b__law_near, hdr, isInt, lim15, lim8, lim2, lim1, cut7, binopW, negopW, oStr, q1, guardR, permL, e, ex, endR]
  | non => exact plain rfl
  | str z => exact plain rfl
  | tup xs => exact plain rfl
  | lst xs => exact plain rfl
  | loc i => have := hd.ok; simp [okD] at this
  | fn i => have := hd.ok; simp [okD] at this
  | arr i => have := hd.ok; simp [okD] at this
/-! ### bent -/
theorem cut_to {p q : List D} : cutD (p ++ q) none (some (p.length : Int)) = p := by
  unfold cutD
  rw [HT.sIx_none, HT.sIx_nat]
  simp
theorem cut_from {p q : List D} : cutD (p ++ q) (some (p.length : Int)) none = q := by
  unfold cutD
  rw [HT.sIx_none, HT.sIx_nat]
  simp
theorem cut_from1 {p q : List D} {z : D} : cutD (p ++ z :: q) (some ((p.length : Int) + 1)) none = q := by
  have := cut_from (p := p ++ [z]) (q := q)
  simpa using this
theorem at_mid {p q : List D} {z : D} : atI (p ++ z :: q) (p.length : Int) = some z := by
  have h : p.length < (p ++ z :: q).length := by simp
  rw [atI_nat h]; simp
theorem Dt.parts {n b s : Nat} {p q : List D} {z : D} (h : Dt (n + 1) b s (.tup (p ++ z :: q))) : (okDs p n = true ∧ okDs q n = true) ∧ (bdDs b p = true ∧ bdDs b q = true) ∧ Dt n b (wtD 44 z) z ∧ wtDs 44 p + wtD 44 z + wtDs 44 q + 5 ≤ s := by
  have h1 := h.ok
  have h2 := h.bd
  have h3 := h.wt
  simp only [okD, okDs_app, okDs, Bool.and_eq_true] at h1
  simp only [bdD, bdDs_app, bdDs, Bool.and_eq_true] at h2
  simp only [wtD, wtDs_app, wtDs] at h3
  exact ⟨⟨h1.1, h1.2.2⟩, ⟨h2.1, h2.2.2⟩, ⟨h1.2.1, h2.2.1, Nat.le_refl _⟩, by omega⟩
theorem Dt.put {n b s w : Nat} {p q : List D} {z x : D} (h : Dt (n + 1) b s (.tup (p ++ z :: q))) (hx : Dt (n + 1) (b + 1) w x) (hw : w ≤ 2 * wtD 44 z + 500 ∨ w + wtDs 44 p + wtDs 44 q + 5 ≤ 2 * s) : Dt (n + 2) (b + 1) (2 * s + 500) (.tup (p ++ x :: q)) := by
  obtain ⟨⟨a1, a2⟩, ⟨b1, b2⟩, c, w1⟩ := h.parts
  have hxw := hx.wt
  refine ⟨?_, ?_, ?_⟩
  · simp only [okD, okDs_app, okDs, Bool.and_eq_true]
    exact ⟨okDs_up _ _ _ (by omega) a1, hx.ok, okDs_up _ _ _ (by omega) a2⟩
  · simp only [bdD, bdDs_app, bdDs, Bool.and_eq_true]
    exact ⟨bdDs_up _ _ _ (by omega) b1, hx.bd, bdDs_up _ _ _ (by omega) b2⟩
  · simp only [wtD, wtDs_app, wtDs]; omega
def BentF (n : Nat) (f : FM) : Prop := ∀ (l : Nat) (g : Gh) (d : D) (b s : Nat), HasBag l g → Dt n b s d → 3 ≤ b → b ≤ 43 → s ≤ 40000 → ∃ d' g', HasBag l g' ∧ Dt (n + 1) (b + 1) (2 * s + 500) d' ∧ f [.loc l, d] g = .ok d' g'
theorem bent_spec {n : Nat} {tk ne be : FM} (hn : n ≤ 60) (ht : TakeF tk) (hne : NearF ne) (hbe : ∀ n', n = n' + 1 → BentF n' be) : BentF n (mFun 2 4 (P_b__law_bent tk ne be)) := fun l g d b s hb hd b3 b43 hs => by
  have plain : isTuple d = some false → ∃ d' g', HasBag l g' ∧ Dt (n + 1) (b + 1) (2 * s + 500) d' ∧ mFun 2 4 (P_b__law_bent tk ne be) [.loc l, d] g = .ok d' g' := fun hi => by
    obtain ⟨x, g', hb', hx, e⟩ := hne l g d n b s hb hd hn b3 b43
    refine ⟨x, g', hb', hx.up (Nat.le_refl _) (Nat.le_refl _) (by omega), ?_⟩
    have hdr := hd.deref (g := g)
    simp [mFun, P_b__law_bent, hdr, hi, permL, e, endR]
  cases d with
  | tup ys =>
    cases n with
    | zero => have := hd.ok; simp [okD] at this
    | succ n =>
    by_cases h0 : ys = []
    · subst h0
      obtain ⟨x, g', hb', hx, e⟩ := hne l g _ _ b s hb hd hn b3 b43
      refine ⟨x, g', hb', hx.up (Nat.le_refl _) (Nat.le_refl _) (by omega), ?_⟩
      have eq : cmpop .Eq (.tup []) (.tup []) g = .ok (.bl true) g := eq_same rfl
      simp [mFun, P_b__law_bent, isTuple, eq, permL, e, endR]
    · have neq : cmpop .Eq (.tup ys) (.tup []) g = .ok (.bl false) g := by
        have ok0 : okD (.tup []) 64 = true := rfl
        have okx := okD_up _ _ 64 (by omega) hd.ok
        rw [eq_ap, okD_deref okx, okD_deref ok0, okE_ok okx ok0]
        cases ys with
        | nil => exact absurd rfl h0
        | cons y ys => rfl
      have hL : (LIM : Nat) = 100000 := rfl
      have hlen : ys.length ≤ 40000 := by
        have := hd.wt
        have := wtDs_len (k := 44) ys
        simp only [wtD] at *
        omega
      have hpos : 0 < ys.length := by cases ys with | nil => exact absurd rfl h0 | cons => simp
      obtain ⟨r1, g1, hr1, ⟨hb1, _⟩, e1⟩ := ht l g 8 hb (by decide) (by decide)
      by_cases hz : r1 = 0
      · subst hz
        obtain ⟨x, g', hb', hx, e⟩ := hne l g1 _ _ b s hb1 hd hn b3 b43
        refine ⟨x, g', hb', hx.up (Nat.le_refl _) (Nat.le_refl _) (by omega), ?_⟩
        simp [mFun, P_b__law_bent, isTuple, neq, permL, e1, e, endR]
      · obtain ⟨r2, g2, hr2, ⟨hb2, _⟩, e2⟩ := ht l g1 ys.length hb1 (by omega) (bd_of (by omega))
        obtain ⟨r3, g3, hr3, ⟨hb3, _⟩, e3⟩ := ht l g2 10 hb2 (by decide) (by decide)
        obtain ⟨p, z, q, rfl, rfl⟩ : ∃ p z q, ys = p ++ z :: q ∧ r2 = (p.length : Int) := by
          have hl : r2.toNat < ys.length := by omega
          refine ⟨ys.take r2.toNat, ys[r2.toNat], ys.drop (r2.toNat + 1), ?_, ?_⟩
          · rw [List.getElem_cons_drop, List.take_append_drop]
          · rw [List.length_take]; omega
        obtain ⟨⟨a1, a2⟩, ⟨c1, c2⟩, dz, w1⟩ := hd.parts
        have lp := wtDs_len (k := 44) p
        have lq := wtDs_len (k := 44) q
        have l1 : p.length + q.length ≤ LIM := by omega
        have l2 : p.length + 1 ≤ LIM := by omega
        have l3 : p.length + 1 + (q.length + 1) ≤ LIM := by omega
        have l4 : p.length + 1 + q.length ≤ LIM := by omega
        have l5 : (1 : Nat) ≤ LIM := by decide
        have k1 := cut_to (p := p) (q := z :: q)
        have k2 := cut_from (p := p) (q := z :: q)
        have k3 := cut_from1 (p := p) (q := q) (z := z)
        have k4 := at_mid (p := p) (q := q) (z := z)
        have hpq : ((p ++ z :: q).length : Int) = (p.length : Int) + ((q.length : Int) + 1) := by simp
        rw [hpq] at e2
        by_cases w0 : r3 = 0
        · subst w0
          refine ⟨.tup (p ++ q), g3, hb3, ⟨?_, ?_, ?_⟩, ?_⟩
          · simp only [okD, okDs_app, Bool.and_eq_true]
            exact ⟨okDs_up _ _ _ (by omega) a1, okDs_up _ _ _ (by omega) a2⟩
          · simp only [bdD, bdDs_app, Bool.and_eq_true]
            exact ⟨bdDs_up _ _ _ (by omega) c1, bdDs_up _ _ _ (by omega) c2⟩
          · simp only [wtD, wtDs_app]; omega
          · simp [mFun, P_b__law_bent, isTuple, neq, permL, e1, hz, e2, e3, k1, k3, l1, endR]
        by_cases w1' : r3 = 1
        · subst w1'
          refine ⟨.tup (p ++ z :: (z :: q)), g3, hb3, ⟨?_, ?_, ?_⟩, ?_⟩
          · simp only [okD, okDs_app, okDs, Bool.and_eq_true]
            exact ⟨okDs_up _ _ _ (by omega) a1, okD_up _ _ _ (by omega) dz.ok, okD_up _ _ _ (by omega) dz.ok, okDs_up _ _ _ (by omega) a2⟩
          · simp only [bdD, bdDs_app, bdDs, Bool.and_eq_true]
            exact ⟨bdDs_up _ _ _ (by omega) c1, bdD_up _ _ _ (by omega) dz.bd, bdD_up _ _ _ (by omega) dz.bd, bdDs_up _ _ _ (by omega) c2⟩
          · simp only [wtD, wtDs_app, wtDs]; omega
          · simp [mFun, P_b__law_bent, isTuple, neq, permL, e1, hz, e2, e3, k1, k2, k4, l2, l3, l5, endR]
        by_cases w2 : r3 = 2
        · subst w2
          have hw := hd.wt
          refine ⟨.lst (p ++ z :: q), g3, hb3, ⟨?_, ?_, ?_⟩, ?_⟩
          · have := okD_up _ _ (n + 1 + 1) (by omega) hd.ok
            simpa only [okD] using this
          · have := bdD_up _ _ (b + 1) (by omega) hd.bd
            simpa only [bdD] using this
          · simp only [wtD] at hw ⊢; omega
          · simp [mFun, P_b__law_bent, isTuple, neq, permL, e1, hz, e2, e3, oListF, seqD, endR]
        by_cases w3 : r3 = 3
        · subst w3
          obtain ⟨r4, g4, hr4, ⟨hb4, _⟩, e4⟩ := ht l g3 (p ++ z :: q).length hb3 (by omega) (bd_of (by omega))
          rw [hpq] at e4
          obtain ⟨x, hx, ex⟩ := atI_mem (l := p ++ z :: q) hr4.1 hr4.2
          have hxd : Dt (n + 1) (b + 1) (wtD 44 x) x := by
            have h1 := hd.ok
            have h2 := hd.bd
            simp only [okD] at h1
            simp only [bdD] at h2
            exact ⟨okD_up _ _ _ (by omega) (okDs_mem h1 x hx), bdD_up _ _ _ (by omega) (bdDs_mem h2 x hx), Nat.le_refl _⟩
          have hxw := wtDs_mem (k := 44) x hx
          have hw := hd.wt
          refine ⟨.tup (p ++ x :: q), g4, hb4, hd.put hxd (.inr ?_), ?_⟩
          · simp only [wtD] at hw; omega
          · simp [mFun, P_b__law_bent, isTuple, neq, permL, e1, hz, e2, e3, k1, k3, l2, l4, l5, e4, ex, endR]
        · obtain ⟨x, g', hb', hx, e⟩ := hbe n rfl l g3 z b (wtD 44 z) hb3 dz b3 b43 (by omega)
          refine ⟨.tup (p ++ x :: q), g', hb', hd.put hx (.inl (Nat.le_refl _)), ?_⟩
          simp [mFun, P_b__law_bent, isTuple, neq, permL, e1, hz, e2, e3, w0, w1', w2, w3, k1, k3, k4, l2, l4, l5, e, endR]
  | non => exact plain rfl
  | bl z => exact plain rfl
  | int z => exact plain rfl
  | str z => exact plain rfl
  | lst xs => exact plain rfl
  | loc i => have := hd.ok; simp [okD] at this
  | fn i => have := hd.ok; simp [okD] at this
  | arr i => have := hd.ok; simp [okD] at this
end GL
/-! GL part 37: the spread in a tree; the least of one test. -/
namespace GL
open PySem L2
def sIn : Tr → List Row → Rat
  | .leaf _, rows => spreadR (lblR rows)
  | .test c cut y z, rows => sIn y (yesR c cut rows) + sIn z (noR c cut rows)
theorem parts_len (c : Nat) (cut : Rat) : ∀ rows : List Row, (yesR c cut rows).length + (noR c cut rows).length = rows.length
  | [] => rfl
  | r :: rs => by
    have ih := parts_len c cut rs
    unfold yesR noR at *
    cases h : isYes c cut r.1 <;> simp [h] <;> omega
theorem dvd_L : ∀ m : Nat, m ≤ 15 → m ≠ 0 → m ∣ 360360 := by decide
theorem mul_shuffle {L m q B : Nat} (h : L = m * q) : L * (2 * m * B) = 2 * (m * m) * B * q := by
  subst h
  simp only [Nat.mul_assoc, Nat.mul_left_comm, Nat.mul_comm]
theorem spread_L {ls : List Int} (hl : ls.length ≤ 15) (hb : ∀ l ∈ ls, Bd 20 l) : ∃ N : Int, spreadR ls = Rat.divInt N 360360 ∧ N.natAbs ≤ 360360 * (2 * ls.length * 2 ^ 40) := by
  by_cases h0 : ls = []
  · subst h0
    exact ⟨0, by simp [spreadR], by simp⟩
  · have hm0 : ls.length ≠ 0 := fun e => h0 (List.length_eq_zero_iff.mp e)
    obtain ⟨q, hq⟩ := dvd_L ls.length hl hm0
    have hq0 : q ≠ 0 := by rintro rfl; simp at hq
    have b1 := sum_bd (ls := ls) (B := 2 ^ 20) fun l hl => Nat.le_of_lt (hb l hl)
    have b2 := sum_bd (ls := ls.map fun l => l * l) (B := 2 ^ 40) fun l hl => by
      obtain ⟨x, hx, rfl⟩ := List.mem_map.mp hl
      have h1 : x.natAbs ≤ 2 ^ 20 := Nat.le_of_lt (hb x hx)
      rw [Int.natAbs_mul]
      exact Nat.le_trans (Nat.mul_le_mul h1 h1) (by decide)
    rw [List.length_map] at b2
    generalize hX : ((ls.length : Int) * (ls.map fun l => l * l).sum - ls.sum * ls.sum) = X at *
    have bX : X.natAbs ≤ 2 * (ls.length * ls.length) * 2 ^ 40 := by
      have h1 : ((ls.length : Int) * (ls.map fun l => l * l).sum).natAbs ≤ ls.length * (ls.length * 2 ^ 40) := by
        rw [Int.natAbs_mul]; exact Nat.mul_le_mul (by simp) b2
      have h2 : (ls.sum * ls.sum).natAbs ≤ (ls.length * 2 ^ 20) * (ls.length * 2 ^ 20) := by
        rw [Int.natAbs_mul]; exact Nat.mul_le_mul b1 b1
      have h3 : (ls.length * 2 ^ 20) * (ls.length * 2 ^ 20) = ls.length * (ls.length * 2 ^ 40) := by
        rw [show (2 : Nat) ^ 40 = 2 ^ 20 * 2 ^ 20 by decide]
        generalize (2 : Nat) ^ 20 = B
        simp only [Nat.mul_assoc, Nat.mul_left_comm]
      have h4 : ls.length * (ls.length * 2 ^ 40) = (ls.length * ls.length) * 2 ^ 40 := by rw [Nat.mul_assoc]
      rw [h3] at h2
      rw [h4] at h1 h2
      have h5 : X.natAbs ≤ ((ls.length : Int) * (ls.map fun l => l * l).sum).natAbs + (ls.sum * ls.sum).natAbs := by rw [← hX]; omega
      rw [Nat.mul_assoc 2, Nat.two_mul]
      exact Nat.le_trans h5 (Nat.add_le_add h1 h2)
    refine ⟨X * q, ?_, ?_⟩
    · have e : spreadR ls = Rat.divInt X ls.length := by simp [spreadR, h0, hX]
      have h1 : ((360360 : Nat) : Int) = ((ls.length * q : Nat) : Int) := congrArg Nat.cast hq
      have h2 : (360360 : Int) = (ls.length : Int) * (q : Int) := by rw [← Int.natCast_mul, ← h1]; omega
      rw [e, h2, Rat.divInt_mul_right (by omega)]
    · rw [Int.natAbs_mul, Int.natAbs_natCast]
      rw [mul_shuffle hq]
      exact Nat.mul_le_mul_right _ bX
theorem divInt_addL (a b : Int) : Rat.divInt a 360360 + Rat.divInt b 360360 = Rat.divInt (a + b) 360360 := by
  rw [Rat.divInt_add_divInt _ _ (by decide) (by decide), ← Int.add_mul, Rat.divInt_mul_right (by decide)]
theorem sIn_L {k n m : Nat} (hm : m ≤ 15) : ∀ (t : Tr) (rows : List Row), RowsOk k n m rows → ∃ N : Int, sIn t rows = Rat.divInt N 360360 ∧ N.natAbs ≤ 360360 * (2 * rows.length * 2 ^ 40)
  | .leaf r, rows, h => by
    have := spread_L (ls := lblR rows) (by simp only [lblR, List.length_map]; exact Nat.le_trans h.1 hm) (h.ls (Nat.le_trans hm (by decide))).2
    simpa only [lblR, List.length_map, sIn] using this
  | .test c cut y z, rows, h => by
    obtain ⟨N1, e1, b1⟩ := sIn_L hm y (yesR c cut rows) (h.filter _)
    obtain ⟨N2, e2, b2⟩ := sIn_L hm z (noR c cut rows) (h.filter _)
    refine ⟨N1 + N2, by simp only [sIn, e1, e2, divInt_addL], ?_⟩
    have hp := parts_len c cut rows
    have : 360360 * (2 * rows.length * 2 ^ 40) = 360360 * (2 * (yesR c cut rows).length * 2 ^ 40) + 360360 * (2 * (noR c cut rows).length * 2 ^ 40) := by
      rw [← hp, Nat.mul_add, Nat.add_mul, Nat.mul_add]
    have : (N1 + N2).natAbs ≤ N1.natAbs + N2.natAbs := Int.natAbs_add_le _ _
    omega
theorem sIn_sz {k n m : Nat} (hm : m ≤ 15) {t : Tr} {rows : List Row} (h : RowsOk k n m rows) : Sz 70 (sIn t rows) := by
  obtain ⟨N, e, b⟩ := sIn_L hm t rows h
  rw [e]
  refine .div (by decide) (bd_of ?_) (bd_of (by decide))
  have h1 : rows.length ≤ 15 := Nat.le_trans h.1 hm
  have h2 : 360360 * (2 * rows.length * 2 ^ 40) ≤ 360360 * (2 * 15 * 2 ^ 40) := Nat.mul_le_mul_left _ (Nat.mul_le_mul_right _ (Nat.mul_le_mul_left _ h1))
  exact Nat.lt_of_le_of_lt (Nat.le_trans b h2) (by decide)
/-! ### the least -/
def bestV (n : Nat) (rows : List Row) : Rat := ((testsR n rows).foldl bestS (none, spreadR (lblR rows))).2
theorem best_le_iff {x : Rat} : ∀ (ts : List Tst) (b : Option (Nat × Rat) × Rat), x ≤ (ts.foldl bestS b).2 ↔ x ≤ b.2 ∧ ∀ t ∈ ts, x ≤ t.1
  | [], b => by simp
  | t :: ts, b => by
    rw [List.foldl_cons, best_le_iff ts]
    have hs : x ≤ (bestS b t).2 ↔ x ≤ b.2 ∧ x ≤ t.1 := by
      unfold bestS
      split
      · rename_i h
        exact ⟨fun q => ⟨Rat.le_trans q (Rat.le_of_lt h), q⟩, fun q => q.2⟩
      · rename_i h
        exact ⟨fun q => ⟨q, Rat.le_trans q (Rat.not_lt.mp h)⟩, fun q => q.1⟩
    rw [hs]
    simp [and_assoc]
theorem best_val {V : Nat × Rat → Rat} {i : Rat} : ∀ (ts : List Tst) (b : Option (Nat × Rat) × Rat), (∀ t ∈ ts, t.1 = V t.2) → ((b.1 = none → b.2 = i) ∧ ∀ p, b.1 = some p → b.2 = V p) →
    (((ts.foldl bestS b).1 = none → (ts.foldl bestS b).2 = i) ∧ ∀ p, (ts.foldl bestS b).1 = some p → (ts.foldl bestS b).2 = V p)
  | [], b, _, h => h
  | t :: ts, b, ht, h => by
    rw [List.foldl_cons]
    refine best_val ts _ (fun t' h' => ht t' (List.mem_cons_of_mem _ h')) ?_
    unfold bestS
    split
    · exact ⟨fun q => (nomatch q), fun p q => by cases q; exact ht t List.mem_cons_self⟩
    · exact h
theorem bestV_le (n : Nat) (rows : List Row) : bestV n rows ≤ spreadR (lblR rows) := ((best_le_iff (testsR n rows) _).mp Rat.le_refl).1
theorem bestV_none {n : Nat} {rows : List Row} (h : bestR n rows = none) : bestV n rows = spreadR (lblR rows) :=
  (best_val (V := fun p => spreadR (lblR (yesR p.1 p.2 rows)) + spreadR (lblR (noR p.1 p.2 rows))) (testsR n rows) (none, spreadR (lblR rows)) (fun t ht => (tests_ok (k := 0) t ht).2.2.2) ⟨fun _ => rfl, fun p q => (nomatch q)⟩).1 h
theorem bestV_some {n : Nat} {rows : List Row} {p : Nat × Rat} (h : bestR n rows = some p) : bestV n rows = spreadR (lblR (yesR p.1 p.2 rows)) + spreadR (lblR (noR p.1 p.2 rows)) :=
  (best_val (V := fun p => spreadR (lblR (yesR p.1 p.2 rows)) + spreadR (lblR (noR p.1 p.2 rows))) (testsR n rows) (none, spreadR (lblR rows)) (fun t ht => (tests_ok (k := 0) t ht).2.2.2) ⟨fun _ => rfl, fun p q => (nomatch q)⟩).2 p h
theorem learnt_step {n d : Nat} {rows : List Row} (ih : ∀ rows : List Row, sIn (treeR n d rows) rows ≤ spreadR (lblR rows)) : sIn (treeR n (d + 1) rows) rows ≤ bestV n rows := by
  cases h : bestR n rows with
  | none =>
    have e : treeR n (d + 1) rows = .leaf (meanR (lblR rows)) := by simp [treeR, h]
    rw [e, bestV_none h]
    exact Rat.le_refl
  | some p =>
    have e : treeR n (d + 1) rows = .test p.1 p.2 (treeR n d (yesR p.1 p.2 rows)) (treeR n d (noR p.1 p.2 rows)) := by simp [treeR, h]
    rw [e, bestV_some h]
    show sIn _ _ + sIn _ _ ≤ _
    exact Rat.le_trans ((Rat.add_le_add_left).mpr (ih _)) ((Rat.add_le_add_right).mpr (ih _))
theorem learnt_le {n : Nat} : ∀ (d : Nat) (rows : List Row), sIn (treeR n d rows) rows ≤ spreadR (lblR rows)
  | 0, rows => Rat.le_refl
  | d + 1, rows => Rat.le_trans (learnt_step (learnt_le d)) (bestV_le n rows)
theorem learnt_good {n d : Nat} {rows : List Row} : sIn (treeR n (d + 1) rows) rows ≤ bestV n rows := learnt_step (learnt_le d)
/-! ### the law's least -/
def lcutV (rows : List Row) (c : Nat) (v : Rat) (cut : Rat) : Rat := if spreadR (lblR (yesR c cut rows)) + spreadR (lblR (noR c cut rows)) < v then spreadR (lblR (yesR c cut rows)) + spreadR (lblR (noR c cut rows)) else v
def lcolV (rows : List Row) (v : Rat) (c : Nat) : Rat := (riseR (colR c rows)).foldl (lcutV rows c) v
def leastR (n : Nat) (rows : List Row) : Rat := (List.range n).foldl (lcolV rows) (spreadR (lblR rows))
theorem yes_all {c : Nat} {cut : Rat} {rows : List Row} (h : noR c cut rows = []) : yesR c cut rows = rows := by
  unfold noR at h
  unfold yesR
  rw [List.filter_eq_self]
  intro r hr
  have := List.filter_eq_nil_iff.mp h r hr
  simpa using this
theorem lcutV_eq {rows : List Row} {c : Nat} {cut : Rat} {b : Option (Nat × Rat) × Rat} (h : b.2 ≤ spreadR (lblR rows)) : (lcut rows c b cut).2 = lcutV rows c b.2 cut ∧ (lcut rows c b cut).2 ≤ spreadR (lblR rows) := by
  unfold lcut lcutV
  by_cases h0 : noR c cut rows = []
  · rw [if_pos h0, yes_all h0, h0]
    have e : spreadR (lblR rows) + spreadR (lblR []) = spreadR (lblR rows) := by
      have : spreadR (lblR []) = 0 := rfl
      rw [this, Rat.add_zero]
    rw [e, if_neg (Rat.not_lt.mpr h)]
    exact ⟨rfl, h⟩
  · rw [if_neg h0]
    unfold bestS
    split
    · rename_i q
      exact ⟨rfl, Rat.le_trans (Rat.le_of_lt q) h⟩
    · exact ⟨rfl, h⟩
theorem lcutV_fold {rows : List Row} {c : Nat} : ∀ (cuts : List Rat) (b : Option (Nat × Rat) × Rat), b.2 ≤ spreadR (lblR rows) → (cuts.foldl (lcut rows c) b).2 = cuts.foldl (lcutV rows c) b.2 ∧ (cuts.foldl (lcut rows c) b).2 ≤ spreadR (lblR rows)
  | [], b, h => ⟨rfl, h⟩
  | x :: xs, b, h => by
    have h1 := lcutV_eq (c := c) (cut := x) h
    rw [List.foldl_cons, List.foldl_cons, ← h1.1]
    exact lcutV_fold xs _ h1.2
theorem lcolV_fold {rows : List Row} : ∀ (cs : List Nat) (b : Option (Nat × Rat) × Rat), b.2 ≤ spreadR (lblR rows) → (cs.foldl (lcol rows) b).2 = cs.foldl (lcolV rows) b.2 ∧ (cs.foldl (lcol rows) b).2 ≤ spreadR (lblR rows)
  | [], b, h => ⟨rfl, h⟩
  | x :: xs, b, h => by
    have h1 := lcutV_fold (c := x) (riseR (colR x rows)) b h
    rw [List.foldl_cons, List.foldl_cons]
    have e : lcolV rows b.2 x = (lcol rows b x).2 := h1.1.symm
    rw [e]
    exact lcolV_fold xs _ h1.2
theorem least_eq (n : Nat) (rows : List Row) : leastR n rows = bestV n rows := by
  have h1 := lcol_fold rows (none, spreadR (lblR rows)) (List.range n) []
  have h2 := lcolV_fold (rows := rows) (List.range n) (none, spreadR (lblR rows)) Rat.le_refl
  unfold bestV testsR leastR
  rw [h1]
  exact h2.1.symm
end GL
/-! GL part 38: good trees. -/
namespace GL
open PySem L2
noncomputable def P_b__law_spread_in (c__law_ratio : FM) (c__law_spread : FM) (c__law_both : FM) (c__law_sides : FM) (c__law_labels : FM) (c__law_spread_in : FM) : MS := sSeq (sIf (tV (eCmp .Eq (eSub (eLv 0) (eC (.int 0))) (eC (.str "leaf")))) (sRet (eCall c__law_spread 1 0 [0] [] (lCons (eCall c__law_labels 1 0 [0] [] (lCons (eLv 1) (lNil)) (lNil)) (lNil)) (lNil))) (sSkip)) (sSeq (sAsg (eCall c__law_sides 3 0 [0, 1, 2] [] (lCons (eLv 1) (lCons (eSub (eLv 0) (eC (.int 1))) (lCons (eSub (eLv 0) (eC (.int 2))) (lNil)))) (lNil)) (gSq 2 (gsCons (gNm 2) (gsCons (gNm 3) (gsNil))))) (sSeq (sSet 4 (eCall c__law_both 2 0 [0, 1] [] (lCons (eCall c__law_spread_in 2 0 [0, 1] [] (lCons (eSub (eLv 0) (eC (.int 3))) (lCons (eLv 2) (lNil))) (lNil)) (lCons (eCall c__law_spread_in 2 0 [0, 1] [] (lCons (eSub (eLv 0) (eC (.int 4))) (lCons (eLv 3) (lNil))) (lNil)) (lNil))) (lNil))) (sRet (eCall c__law_ratio 2 0 [0, 1] [] (lCons (eSub (eLv 4) (eC (.int 0))) (lCons (eSub (eLv 4) (eC (.int 1))) (lNil))) (lNil)))))
noncomputable def P_ce__law_least_1 : ME := eSub (eLv 7) (eLv 2)
noncomputable def P_lp__law_least_2 (c__law_less : FM) (c__law_spread : FM) (c__law_both : FM) (c__law_sides : FM) (c__law_labels : FM) : MS := sSeq (sAsg (eCall c__law_sides 3 0 [0, 1, 2] [] (lCons (eLv 0) (lCons (eLv 2) (lCons (eLv 3) (lNil)))) (lNil)) (gSq 2 (gsCons (gNm 4) (gsCons (gNm 5) (gsNil))))) (sSeq (sSet 6 (eCall c__law_both 2 0 [0, 1] [] (lCons (eCall c__law_spread 1 0 [0] [] (lCons (eCall c__law_labels 1 0 [0] [] (lCons (eLv 4) (lNil)) (lNil)) (lNil)) (lNil)) (lCons (eCall c__law_spread 1 0 [0] [] (lCons (eCall c__law_labels 1 0 [0] [] (lCons (eLv 5) (lNil)) (lNil)) (lNil)) (lNil)) (lNil))) (lNil))) (sIf (tV (eCall c__law_less 2 0 [0, 1] [] (lCons (eLv 6) (lCons (eLv 1) (lNil))) (lNil))) (sSet 1 (eLv 6)) (sSkip)))
noncomputable def P_lp__law_least_3 (c__law_less : FM) (c__law_spread : FM) (c__law_both : FM) (c__law_cuts : FM) (c__law_sides : FM) (c__law_labels : FM) : MS := sFor (iV (eCall c__law_cuts 1 0 [0] [] (lCons (eNew (lComp (iV (eLv 0)) (gTp 2 (gsCons (gNm 7) (gsCons (gNm 8) (gsNil)))) (tTrue) (P_ce__law_least_1) [7, 8])) (lNil)) (lNil))) (gNm 3) (P_lp__law_least_2 c__law_less c__law_spread c__law_both c__law_sides c__law_labels)
noncomputable def P_b__law_least (c__law_less : FM) (c__law_spread : FM) (c__law_both : FM) (c__law_cuts : FM) (c__law_sides : FM) (c__law_labels : FM) : MS := sSeq (sSet 1 (eCall c__law_spread 1 0 [0] [] (lCons (eCall c__law_labels 1 0 [0] [] (lCons (eLv 0) (lNil)) (lNil)) (lNil)) (lNil))) (sSeq (sFor (iRange1 (eBi oLen (lCons (eSub (eSub (eLv 0) (eC (.int 0))) (eC (.int 0))) (lNil)))) (gNm 2) (P_lp__law_least_3 c__law_less c__law_spread c__law_both c__law_cuts c__law_sides c__law_labels)) (sRet (eLv 1)))
noncomputable def P_b__law_otherwise (c__law_take : FM) (c__law_ratio : FM) (c__law_number : FM) (c__law_otherwise : FM) : MS := sSeq (sIf (tV (eCmp .Eq (eSub (eLv 1) (eC (.int 0))) (eC (.str "leaf")))) (sRet (eTup (lCons (eC (.str "leaf")) (lCons (eCall c__law_ratio 2 0 [0, 1] [] (lCons (eBin .Sub (eCall c__law_take 2 0 [0, 1] [] (lCons (eLv 0) (lCons (eC (.int 41)) (lNil))) (lNil)) (eC (.int 20))) (lCons (eBin .Add (eC (.int 1)) (eCall c__law_take 2 0 [0, 1] [] (lCons (eLv 0) (lCons (eC (.int 3)) (lNil))) (lNil))) (lNil))) (lNil)) (lNil))))) (sSkip)) (sSeq (sSet 2 (eCall c__law_take 2 0 [0, 1] [] (lCons (eLv 0) (lCons (eC (.int 4)) (lNil))) (lNil))) (sSeq (sIf (tV (eCmp .Eq (eLv 2) (eC (.int 0)))) (sRet (eBin .Add (eBin .Add (eCut (eLv 1) (oNone) (oSome (eC (.int 2)))) (eTup (lCons (eOrV (eSub (eNew (fLst (lCons (eCall c__law_number 1 0 [0] [] (lCons (eLv 0) (lNil)) (lNil)) (lCons (eTup (lCons (eC (.int 0)) (lCons (eC (.int 1)) (lNil)))) (lNil))))) (eCall c__law_take 2 0 [0, 1] [] (lCons (eLv 0) (lCons (eC (.int 2)) (lNil))) (lNil))) (eTup (lCons (eC (.int 1)) (lCons (eC (.int 3)) (lNil))))) (lNil)))) (eCut (eLv 1) (oSome (eC (.int 3))) (oNone)))) (sSkip)) (sSeq (sIf (tV (eCmp .Eq (eLv 2) (eC (.int 1)))) (sRet (eBin .Add (eCut (eLv 1) (oNone) (oSome (eC (.int 3)))) (eTup (lCons (eSub (eLv 1) (eC (.int 4))) (lCons (eSub (eLv 1) (eC (.int 3))) (lNil)))))) (sSkip)) (sSeq (sIf (tV (eCmp .Eq (eLv 2) (eC (.int 2)))) (sRet (eBin .Add (eCut (eLv 1) (oNone) (oSome (eC (.int 3)))) (eTup (lCons (eCall c__law_otherwise 2 0 [0, 1] [] (lCons (eLv 0) (lCons (eSub (eLv 1) (eC (.int 3))) (lNil))) (lNil)) (lCons (eSub (eLv 1) (eC (.int 4))) (lNil)))))) (sSkip)) (sRet (eBin .Add (eCut (eLv 1) (oNone) (oSome (eC (.int 4)))) (eTup (lCons (eCall c__law_otherwise 2 0 [0, 1] [] (lCons (eLv 0) (lCons (eSub (eLv 1) (eC (.int 4))) (lNil))) (lNil)) (lNil)))))))))
noncomputable def P_b__law_good40 (c_is_good : FM) (c__law_less : FM) (c__law_spread_in : FM) (c__law_least : FM) : MS := sSeq (sPar 2 3 (lCons (eBi oRepr (lCons (eLv 0) (lNil))) (lCons (eNot (tV (eCall c__law_less 2 0 [0, 1] [] (lCons (eCall c__law_least 1 0 [0] [] (lCons (eLv 0) (lNil)) (lNil)) (lCons (eCall c__law_spread_in 2 0 [0, 1] [] (lCons (eLv 1) (lCons (eLv 0) (lNil))) (lNil)) (lNil))) (lNil)))) (lNil)))) (sSeq (sSet 4 (eCall c_is_good 2 0 [0, 1] [] (lCons (eLv 1) (lCons (eLv 0) (lNil))) (lNil))) (sRet (eAnd (eIsi isBool (eLv 4)) (eAnd (eCmp .Eq (eLv 4) (eLv 3)) (eAnd (eCmp .Eq (eCall c_is_good 0 2 [1, 0] [] (lNil) (lCons (eLv 0) (lCons (eLv 1) (lNil)))) (eLv 3)) (eCmp .Eq (eBi oRepr (lCons (eLv 0) (lNil))) (eLv 2)))))))
def SpInF (k m d : Nat) (f : FM) : Prop := ∀ (t : Tr) (rows : List Row) (n : Nat) (g : Gh), TrOk k n d t → RowsOk k n m rows → f [dT t, dRows rows] g = .ok (dR (sIn t rows)) g
theorem spin_spec {k m d : Nat} {wk sp lb pt si : FM} (hw : PlusF 71 wk) (hs : SpreadF sp) (hl : LabF lb) (hp : PartF k m pt) (hm : m ≤ 15) (hi : ∀ d', d = d' + 1 → SpInF k m d' si) : SpInF k m d (mFun 2 10 (P_b_spread_in wk sp lb pt si)) := fun t rows n g ht ho => by
  have hm' : m ≤ LIM := Nat.le_trans hm (by decide)
  cases t with
  | leaf r =>
    have e1 := hl rows g (Nat.le_trans ho.1 hm')
    change lb [dRows rows] g = .ok (.lst ((lblR rows).map D.int)) g at e1
    have e2 := hs _ g (ho.ls (Nat.le_trans hm (by decide)))
    have l1 : (2 : Nat) ≤ LIM := by decide
    have eqq : cmpop .Eq (.str "leaf") (.str "leaf") g = .ok (.bl true) g := eq_same (by decide +kernel)
    simp [mFun, P_b_spread_in, dT, l1, eqq, permL, e1, e2, endR, sIn]
  | test c cut y z =>
    cases d with
    | zero => exact ht.elim
    | succ d =>
    obtain ⟨hc, hcut, hy, hz⟩ := ht
    have oy : RowsOk k n m (yesR c cut rows) := ho.filter _
    have on : RowsOk k n m (noR c cut rows) := ho.filter _
    have e1 := hp rows n c cut g ho hc hcut
    change pt [dRows rows, .int c, dR cut] g = .ok (.tup [dRows (yesR c cut rows), dRows (noR c cut rows)]) g at e1
    have e2 := hi d rfl y _ n g hy oy
    have e3 := hi d rfl z _ n g hz on
    have e4 := hw _ _ g ((sIn_sz hm (t := y) oy).mono (by decide)) ((sIn_sz hm (t := z) on).mono (by decide))
    have l5 : (5 : Nat) ≤ LIM := by decide
    have l2 : (2 : Nat) ≤ LIM := by decide
    have l4 : (4 : Nat) ≤ LIM := by decide
    have neq : cmpop .Eq (.str "test") (.str "leaf") g = .ok (.bl false) g := eqS_no str_test_leaf
    have cm : ∀ (env : Env'), env.length = 10 → compL none (gTp 2 (gsCons (gNm 8) (gsCons (gNm 9) (gsNil)))) tTrue (P_ce_spread_in_1 si) [.tup [dT y, dRows (yesR c cut rows)], .tup [dT z, dRows (noR c cut rows)]] env g = .ok [dR (sIn y (yesR c cut rows)), dR (sIn z (noR c cut rows))] g := fun env hlen => by
      refine compL_mapT (tg := gTp 2 (gsCons (gNm 8) (gsCons (gNm 9) (gsNil)))) (t := tTrue) (el := P_ce_spread_in_1 si) (env := env) (g := g) (fun p : Tr × List Row => .tup [dT p.1, dRows p.2]) (fun _ => true) (fun p => dR (sIn p.1 p.2)) [(y, yesR c cut rows), (z, noR c cut rows)] (fun p hp => ?_)
      have ep : si [dT p.1, dRows p.2] g = .ok (dR (sIn p.1 p.2)) g := by
        simp only [List.mem_cons, List.not_mem_nil, or_false] at hp
        rcases hp with rfl | rfl
        · exact e2
        · exact e3
      refine ⟨(env.set 8 (.val (dT p.1))).set 9 (.val (dRows p.2)), by simp, rfl, fun _ => ?_⟩
      simp [P_ce_spread_in_1, hlen, permL, ep]
    have z0 : pairD [dT y, dT z] [dRows (yesR c cut rows), dRows (noR c cut rows)] = [.tup [dT y, dRows (yesR c cut rows)], .tup [dT z, dRows (noR c cut rows)]] := rfl
    have q0 : atI [dR (sIn y (yesR c cut rows)), dR (sIn z (noR c cut rows))] 0 = some (dR (sIn y (yesR c cut rows))) := rfl
    have q1 : atI [dR (sIn y (yesR c cut rows)), dR (sIn z (noR c cut rows))] 1 = some (dR (sIn z (noR c cut rows))) := rfl
    have hdT : dT (.test c cut y z) = .tup [.str "test", .int c, dR cut, dT y, dT z] := rfl
    rw [hdT]
    simp [mFun, P_b_spread_in, l5, l2, l4, neq, permL, e1, z0, cm, blkE, wipeE, q0, q1, e4, endR, sIn]
/-! ### is_good -/
def IsTreeF (f : FM) : Prop := ∀ (d : D) (cols : Int) (g : Gh), AnyD 44 d → f [d, .int cols] g = .ok (.bl (treeD cols 8 d)) g
theorem ratioD_dR (r : Rat) : ratioD (dR r) = true := by
  have h : Int.gcd r.num (r.den : Int) = 1 := by
    have := r.reduced
    simpa [Int.gcd] using this
  have h2 : 0 < r.den := r.den_pos
  simp [ratioD, dR, h, h2]
theorem treeD_T {k n : Nat} : ∀ (d e : Nat) (t : Tr), d ≤ e → TrOk k n d t → treeD n e (dT t) = true
  | d, e, .leaf r, _, _ => by
    have := ratioD_dR r
    have e0 : treeD n e (.tup [.str "leaf", dR r]) = ratioD (dR r) := by cases e <;> rfl
    rw [show dT (.leaf r) = .tup [.str "leaf", dR r] from rfl, e0, this]
  | 0, e, .test _ _ _ _, _, h => h.elim
  | d + 1, 0, .test c cut y z, he, h => by omega
  | d + 1, e + 1, .test c cut y z, he, h => by
    have h1 := treeD_T d e y (by omega) h.2.2.1
    have h2 := treeD_T d e z (by omega) h.2.2.2
    have h3 := h.1
    have hl : ¬ (("test" : Str) = ("leaf" : Str)) := by decide +kernel
    have e0 : treeD n (e + 1) (.tup [.str "test", .int c, dR cut, dT y, dT z]) = (withinD 0 ((n : Int) - 1) (.int c) && ratioD (dR cut) && treeD n e (dT y) && treeD n e (dT z)) := by
      conv => lhs; unfold treeD
      rw [if_neg hl, if_pos rfl]
    rw [show dT (.test c cut y z) = .tup [.str "test", .int c, dR cut, dT y, dT z] from rfl, e0, h1, h2, ratioD_dR]
    have : withinD 0 ((n : Int) - 1) (.int c) = true := by simp [withinD]; omega
    rw [this]; rfl
theorem is_good_no {n m : Nat} {hd sp lb ts it si : FM} (hit : IsTreeF it) {d : D} {rows : List Row} {g : Gh} (ho : RowsOk 40 n m rows) (hne : rows ≠ []) (hd' : AnyD 44 d) (hno : treeD n 8 d = false) : mFun 2 6 (P_b_is_good hd sp lb ts it si) [d, dRows rows] g = .ok (.bl false) g := by
  obtain ⟨r0, a1, a2, a3⟩ := lot00 ho hne g
  have e := hit d n g hd'
  rw [hno] at e
  simp [mFun, P_b_is_good, a1, a2, a3, permL, e, endR]
theorem all_map (ts : List Bool) (g : Gh) : oAll [.lst (ts.map D.bl)] g = .ok (.bl (ts.all id)) g := by simp [oAll]
theorem is_good_spec {n m d : Nat} {hd sp lb ts it si : FM} (hh : HeldF 143 hd) (hs : SpreadF sp) (hl : LabF lb) (hts : TestsF 40 m ts) (hit : IsTreeF it) (hsi : SpInF 40 m d si) (hm : m ≤ 15) (hd8 : d ≤ 8) (hn : n ≤ 100) {t : Tr} {rows : List Row} {g : Gh} (ho : RowsOk 40 n m rows) (hne : rows ≠ []) (ht : TrOk 40 n d t) (hany : AnyD 44 (dT t)) :
    mFun 2 6 (P_b_is_good hd sp lb ts it si) [dT t, dRows rows] g = .ok (.bl (decide (sIn t rows ≤ bestV n rows))) g := by
  obtain ⟨r0, a1, a2, a3⟩ := lot00 ho hne g
  have e := hit (dT t) n g hany
  rw [treeD_T d 8 t hd8 ht] at e
  have hm' : m ≤ LIM := Nat.le_trans hm (by decide)
  have e1 := hl rows g (Nat.le_trans ho.1 hm')
  change lb [dRows rows] g = .ok (.lst ((lblR rows).map D.int)) g at e1
  have e2 := hs _ g (ho.ls (Nat.le_trans hm (by decide)))
  have e3 := hsi t rows n g ht ho
  have e4 := hts rows n g ho hne hn
  have s1 : Sz 143 (sIn t rows) := (sIn_sz hm ho).mono (by decide)
  have s2 : Sz 143 (spreadR (lblR rows)) := (sIn_sz hm (t := .leaf 0) ho).mono (by decide)
  have e5 := hh (sIn t rows) (spreadR (lblR rows)) g s1 s2
  have iff1 := best_le_iff (x := sIn t rows) (testsR n rows) (none, spreadR (lblR rows))
  change sIn t rows ≤ bestV n rows ↔ _ at iff1
  by_cases hgt : spreadR (lblR rows) < sIn t rows
  · have h0 : 0 < heldR (sIn t rows) (spreadR (lblR rows)) := by have := held_gt (r := sIn t rows) (s := spreadR (lblR rows)); rw [decide_eq_true hgt] at this; exact of_decide_eq_true this
    have hf : ¬ sIn t rows ≤ bestV n rows := fun q => absurd (iff1.mp q).1 (Rat.not_le.mpr hgt)
    rw [decide_eq_false hf]
    simp [mFun, P_b_is_good, a1, a2, a3, permL, e, e1, e2, e3, e5, h0, endR]
  · have h0 : ¬ 0 < heldR (sIn t rows) (spreadR (lblR rows)) := by have := held_gt (r := sIn t rows) (s := spreadR (lblR rows)); rw [decide_eq_false hgt] at this; exact of_decide_eq_false this
    have cm : ∀ (x0 x1 x3 x4 x5 : Sl), compL none (gTp 3 (gsCons (gNm 3) (gsCons (gNm 4) (gsCons (gNm 5) (gsNil))))) tTrue (P_ce_is_good_1 hd) ((testsR n rows).map dTst) [x0, x1, .val (dR (sIn t rows)), x3, x4, x5] g = .ok (((testsR n rows).map fun t' => decide (sIn t rows ≤ t'.1)).map D.bl) g := fun x0 x1 x3 x4 x5 => by
      have := compL_mapT (tg := gTp 3 (gsCons (gNm 3) (gsCons (gNm 4) (gsCons (gNm 5) (gsNil))))) (t := tTrue) (el := P_ce_is_good_1 hd) (env := [x0, x1, .val (dR (sIn t rows)), x3, x4, x5]) (g := g) dTst (fun _ => true) (fun t' => D.bl (decide (sIn t rows ≤ t'.1))) (testsR n rows) (fun t' ht' => by
        have ok := tests_ok (k := 40) t' ht'
        have s3 : Sz 143 t'.1 := by
          rw [ok.2.2.2]
          exact (sIn_sz hm (t := .test t'.2.1 t'.2.2 (.leaf 0) (.leaf 0)) ho).mono (by decide)
        have e6 := hh (sIn t rows) t'.1 g s1 s3
        have e7 := held_le (r := sIn t rows) (s := t'.1)
        refine ⟨[x0, x1, .val (dR (sIn t rows)), .val (dR t'.1), .val (.int t'.2.1), .val (dR t'.2.2)], by simp [dTst], rfl, fun _ => ?_⟩
        simp [P_ce_is_good_1, permL, e6, e7])
      rw [show (testsR n rows).filter (fun _ => true) = testsR n rows by simp] at this
      rw [this, List.map_map]; rfl
    have lt : (testsR n rows).length ≤ LIM := by
      have h1 := testC_len rows (List.range n) []
      have h2 : n * rows.length ≤ 100 * 15 := Nat.mul_le_mul hn (Nat.le_trans ho.1 hm)
      have hL : (LIM : Nat) = 100000 := rfl
      change (testsR n rows).length ≤ _ at h1
      simp only [List.length_nil, List.length_range] at h1
      omega
    have al := all_map ((testsR n rows).map fun t' => decide (sIn t rows ≤ t'.1)) g
    have fin : ((testsR n rows).map fun t' => decide (sIn t rows ≤ t'.1)).all id = decide (sIn t rows ≤ bestV n rows) := by
      rw [Bool.eq_iff_iff, decide_eq_true_iff, iff1, List.all_eq_true]
      simp only [List.mem_map, id, forall_exists_index, and_imp, forall_apply_eq_imp_iff₂, decide_eq_true_eq]
      exact ⟨fun q => ⟨Rat.not_lt.mp hgt, q⟩, fun q => q.2⟩
    rw [fin] at al
    have lBL : (((testsR n rows).map fun t' => decide (sIn t rows ≤ t'.1)).map D.bl).length ≤ LIM := by simpa using lt
    generalize ((testsR n rows).map fun t' => decide (sIn t rows ≤ t'.1)).map D.bl = BL at *
    simp [mFun, P_b_is_good, a1, a2, a3, permL, e, e1, e2, e3, e5, h0, e4, cm, blkE, wipeE, al, lBL, endR]
end GL
/-! GL part 39: the law's own good trees. -/
namespace GL
open PySem L2
def RatFW (f : FM) : Prop := ∀ (a b : Int) (g : Gh), 0 < b → Bd 143 b → f [.int a, .int b] g = .ok (dR (Rat.divInt a b)) g
theorem rat_specW : RatFW (mFun 2 4 P_b__law_ratio) := fun a b g h hb => by
  have lp : ∀ (n m : Nat), sWhile P_wt__law_ratio_2 P_wl__law_ratio_1 [.val (.int a), .val (.int b), .val (.int m), .val (.int n)] g = .nx [.val (.int a), .val (.int b), .val (.int (Nat.gcd m n)), .val (.int 0)] g := by
    intro n
    induction n using Nat.strongRecOn with
    | ind n ih =>
      intro m
      rw [sWhile_eq]
      by_cases h0 : n = 0
      · subst h0
        simp [P_wt__law_ratio_2]
      · have e0 : ¬ (n : Int) = 0 := by omega
        have hlt : m % n < n := Nat.mod_lt _ (by omega)
        have := ih (m % n) hlt n
        simp [P_wt__law_ratio_2, P_wl__law_ratio_1, e0, h0, fmod_nat, -Int.natCast_emod] at this ⊢
        rw [this, Nat.gcd_comm n (m % n), ← Nat.gcd_rec n m, Nat.gcd_comm n m]
  have hb0 : b ≠ 0 := by omega
  have hp := gcd_pos (a := a) hb0
  have e1 := lp b.natAbs a.natAbs
  have eb : (b.natAbs : Int) = b := by omega
  have ea : (a.natAbs : Int) = if a < 0 then -a else a := (abs_if a).symm
  rw [ea, eb] at e1
  have d1 : divOk ((a.natAbs.gcd b.natAbs : Nat) : Int) = true := divOk_bd (b := 143) (show ((Int.gcd a b : Nat) : Int) ≠ 0 by omega) (bd_gcd hb0 hb) (by decide) (by decide)
  have fd : ∀ z : Int, z.fdiv ((a.natAbs.gcd b.natAbs : Nat) : Int) = z / (Int.gcd a b : Int) := fun z => Int.fdiv_eq_ediv_of_nonneg _ (by omega)
  have hn : ¬ b < 0 := by omega
  rw [← low_rat hb0]
  simp [mFun, P_b__law_ratio, e1, d1, fd, lim2, endR, lowT, lowU, hn]

def LSpInF (k m d : Nat) (f : FM) : Prop := ∀ (t : Tr) (rows : List Row) (n : Nat) (g : Gh), TrOk k n d t → RowsOk k n m rows → ∃ e, IsP 71 (sIn t rows) e ∧ f [dT t, dRows rows] g = .ok e g
theorem isP_dR {k : Nat} {r : Rat} (h : Sz k r) : IsP k r (dR r) := ⟨r.num, r.den, rfl, by have := r.den_pos; omega, h.1, h.2, (Rat.num_divInt_den r).symm⟩
theorem lspin_spec {k m d : Nat} {rt sp bo sd lb si : FM} (hr : RatFW rt) (hs : PSpreadF sp) (hbo : PBothF 71 bo) (hp : PartF k m sd) (hl : LabF lb) (hm : m ≤ 15) (hi : ∀ d', d = d' + 1 → LSpInF k m d' si) : LSpInF k m d (mFun 2 5 (P_b__law_spread_in rt sp bo sd lb si)) := fun t rows n g ht ho => by
  have hm' : m ≤ LIM := Nat.le_trans hm (by decide)
  cases t with
  | leaf r =>
    have e1 := hl rows g (Nat.le_trans ho.1 hm')
    change lb [dRows rows] g = .ok (.lst ((lblR rows).map D.int)) g at e1
    obtain ⟨e, he, e2⟩ := hs _ g (ho.ls (Nat.le_trans hm (by decide)))
    refine ⟨e, he, ?_⟩
    have a0 : atI [D.str "leaf", dR r] 0 = some (.str "leaf") := rfl
    have eqq : cmpop .Eq (.str "leaf") (.str "leaf") g = .ok (.bl true) g := eq_same (by decide +kernel)
    simp [mFun, P_b__law_spread_in, dT, a0, eqq, permL, e1, e2, endR]
  | test c cut y z =>
    cases d with
    | zero => exact ht.elim
    | succ d =>
    obtain ⟨hc, hcut, hy, hz⟩ := ht
    have oy : RowsOk k n m (yesR c cut rows) := ho.filter _
    have on : RowsOk k n m (noR c cut rows) := ho.filter _
    have e1 := hp rows n c cut g ho hc hcut
    change sd [dRows rows, .int c, dR cut] g = .ok (.tup [dRows (yesR c cut rows), dRows (noR c cut rows)]) g at e1
    obtain ⟨x1, h1, e2⟩ := hi d rfl y _ n g hy oy
    obtain ⟨x2, h2, e3⟩ := hi d rfl z _ n g hz on
    obtain ⟨x3, ⟨tt, u, rfl, hu, bt, bu, hq⟩, e4⟩ := hbo _ _ _ _ g h1 h2
    have e5 := hr tt u g hu bu
    rw [← hq] at e5
    have hsz : Sz 71 (sIn (.test c cut y z) rows) := (sIn_sz hm ho).mono (by decide)
    refine ⟨dR (sIn (.test c cut y z) rows), isP_dR hsz, ?_⟩
    have a0 : atI [D.str "test", .int c, dR cut, dT y, dT z] 0 = some (.str "test") := rfl
    have a1 : atI [D.str "test", .int c, dR cut, dT y, dT z] 1 = some (.int c) := rfl
    have a2 : atI [D.str "test", .int c, dR cut, dT y, dT z] 2 = some (dR cut) := rfl
    have a3 : atI [D.str "test", .int c, dR cut, dT y, dT z] 3 = some (dT y) := rfl
    have a4 : atI [D.str "test", .int c, dR cut, dT y, dT z] 4 = some (dT z) := rfl
    have b0 : atI [D.int tt, .int u] 0 = some (.int tt) := rfl
    have b1 : atI [D.int tt, .int u] 1 = some (.int u) := rfl
    have neq : cmpop .Eq (.str "test") (.str "leaf") g = .ok (.bl false) g := eqS_no str_test_leaf
    rw [show dT (.test c cut y z) = .tup [.str "test", .int c, dR cut, dT y, dT z] from rfl]
    simp [mFun, P_b__law_spread_in, a0, a1, a2, a3, a4, b0, b1, neq, permL, e1, e2, e3, e4, e5, endR, sIn]
/-! ### the least -/
section
variable {k m : Nat} {ls sp bo cu sd lb : FM}
theorem least_inner (hls : PLessF 143 ls) (hsp : PSpreadF sp) (hbo : PBothF 71 bo) (hsd : PartF k m sd) (hlb : LabF lb) (hm : m ≤ 100) {rows : List Row} {n c : Nat} {g : Gh} (ho : RowsOk k n m rows) (hc : c < n) {cut : Rat} (hcut : Sz k cut) {v : Rat} {d1 : D} {s4 s5 s6 s7 s8 : Sl} (h1 : IsP 143 v d1) :
    ∃ d1' s4' s5' s6', IsP 143 (lcutV rows c v cut) d1' ∧ P_lp__law_least_2 ls sp bo sd lb [.val (dRows rows), .val d1, .val (.int c), .val (dR cut), s4, s5, s6, s7, s8] g = .nx [.val (dRows rows), .val d1', .val (.int c), .val (dR cut), s4', s5', s6', s7, s8] g := by
  have e1 := hsd rows n c cut g ho hc hcut
  change sd [dRows rows, .int c, dR cut] g = .ok (.tup [dRows (yesR c cut rows), dRows (noR c cut rows)]) g at e1
  have oy : RowsOk k n m (yesR c cut rows) := ho.filter _
  have on : RowsOk k n m (noR c cut rows) := ho.filter _
  have lm : m ≤ LIM := Nat.le_trans hm (by decide)
  have e2 := hlb (yesR c cut rows) g (Nat.le_trans oy.1 lm)
  have e3 := hlb (noR c cut rows) g (Nat.le_trans on.1 lm)
  change lb [dRows (yesR c cut rows)] g = .ok (.lst ((lblR (yesR c cut rows)).map D.int)) g at e2
  change lb [dRows (noR c cut rows)] g = .ok (.lst ((lblR (noR c cut rows)).map D.int)) g at e3
  obtain ⟨da, ha, e4⟩ := hsp _ g (oy.ls (Nat.le_trans hm (by decide)))
  obtain ⟨db, hb, e5⟩ := hsp _ g (on.ls (Nat.le_trans hm (by decide)))
  obtain ⟨dc, hc', e6⟩ := hbo _ _ _ _ g ha hb
  have e7 := hls _ _ _ _ g hc' h1
  by_cases w : spreadR (lblR (yesR c cut rows)) + spreadR (lblR (noR c cut rows)) < v
  · refine ⟨dc, .val (dRows (yesR c cut rows)), .val (dRows (noR c cut rows)), .val dc, by rw [lcutV, if_pos w]; exact hc', ?_⟩
    simp [P_lp__law_least_2, permL, e1, e2, e3, e4, e5, e6, e7, w]
  · refine ⟨d1, .val (dRows (yesR c cut rows)), .val (dRows (noR c cut rows)), .val dc, by rw [lcutV, if_neg w]; exact h1, ?_⟩
    simp [P_lp__law_least_2, permL, e1, e2, e3, e4, e5, e6, e7, w]
theorem least_column (hls : PLessF 143 ls) (hsp : PSpreadF sp) (hbo : PBothF 71 bo) (hcu : RiseF k cu) (hsd : PartF k m sd) (hlb : LabF lb) (hm : m ≤ 100) {rows : List Row} {n c : Nat} {g : Gh} (ho : RowsOk k n m rows) (hc : c < n) {v : Rat} {d1 : D} {s3 s4 s5 s6 s7 s8 : Sl} (h1 : IsP 143 v d1) :
    ∃ d1' s3' s4' s5' s6', IsP 143 (lcolV rows v c) d1' ∧ P_lp__law_least_3 ls sp bo cu sd lb [.val (dRows rows), .val d1, .val (.int c), s3, s4, s5, s6, s7, s8] g = .nx [.val (dRows rows), .val d1', .val (.int c), s3', s4', s5', s6', s7, s8] g := by
  have lm : m ≤ LIM := Nat.le_trans hm (by decide)
  have cm := compL_mapT (tg := gTp 2 (gsCons (gNm 7) (gsCons (gNm 8) (gsNil)))) (t := tTrue) (el := P_ce__law_least_1) (env := [hideS (.val (dRows rows)), hideS (.val d1), .val (.int c), hideS s3, hideS s4, hideS s5, hideS s6, .un, .un]) (g := g) dRow (fun _ => true) (fun r => dN (r.1[c]?.getD none)) rows (fun r hr => by
    obtain ⟨⟨hn, hx⟩, _⟩ := ho.2 r hr
    have hc' : c < r.1.length := by omega
    have at1 : atI (r.1.map dN) (c : Int) = some (dN r.1[c]) := by
      have := atI_nat (l := r.1.map dN) (i := c) (by simpa using hc')
      simpa using this
    have gg : r.1[c]?.getD none = r.1[c] := by rw [List.getElem?_eq_getElem hc']; rfl
    refine ⟨[hideS (.val (dRows rows)), hideS (.val d1), .val (.int c), hideS s3, hideS s4, hideS s5, hideS s6, .val (dNs r.1), .val (.int r.2)], by simp [dRow], rfl, fun _ => ?_⟩
    rw [gg]
    simp [P_ce__law_least_1, dNs, at1])
  have hf : rows.filter (fun _ => true) = rows := by simp
  rw [hf] at cm
  have em : (rows.map fun r => dN (r.1[c]?.getD none)) = (colR c rows).map dN := by unfold colR; rw [List.map_map]; rfl
  rw [em] at cm
  have hl : rows.length ≤ LIM := Nat.le_trans ho.1 lm
  have eC := hcu (colR c rows) g (by unfold colR; rw [List.length_map]; exact Nat.le_trans ho.1 (Nat.le_trans hm (by decide))) (col_ok ho hc)
  obtain ⟨env', e, dz, s3', s4', s5', s6', hz, rfl⟩ := forL_fold (tg := gNm 3) (b := P_lp__law_least_2 ls sp bo sd lb) (g := g) dR (lcutV rows c) (fun v env => ∃ d1 s3 s4 s5 s6, IsP 143 v d1 ∧ env = [.val (dRows rows), .val d1, .val (.int c), s3, s4, s5, s6, s7, s8]) (riseR (colR c rows)) v [.val (dRows rows), .val d1, .val (.int c), s3, s4, s5, s6, s7, s8] (by
    rintro cut hcm v env ⟨d1, s3, s4, s5, s6, h1, rfl⟩
    have hcs : Sz k cut := col_ok ho hc _ (rise_mem.mp hcm) cut rfl
    obtain ⟨d1', s4', s5', s6', h1', e⟩ := least_inner hls hsp hbo hsd hlb hm ho hc hcs (s4 := s4) (s5 := s5) (s6 := s6) (s7 := s7) (s8 := s8) (g := g) h1
    exact ⟨_, rfl, _, e, _, _, _, _, _, h1', rfl⟩) ⟨_, _, _, _, _, h1, rfl⟩
  refine ⟨dz, s3', s4', s5', s6', hz, ?_⟩
  have it : itemsD (dRows rows) g = .ok (rows.map dRow, none) g := rfl
  have lC : eNew (lComp (iV (eLv 0)) (gTp 2 (gsCons (gNm 7) (gsCons (gNm 8) (gsNil)))) (tTrue) (P_ce__law_least_1) [7, 8]) [.val (dRows rows), .val d1, .val (.int c), s3, s4, s5, s6, s7, s8] g = .ok (.lst ((colR c rows).map dN)) g := by
    have hl2 : ((colR c rows).map dN).length ≤ LIM := by simpa [colR] using hl
    simp only [eNew_ap, lComp_ap, iV_ap, eLv_ap, List.getElem?_cons_zero, R.bind_ok, it]
    simp only [blkE, wipeE, List.map_cons, List.map_nil, List.set]
    simp only [show hideS (.val (.int (c : Int))) = .val (.int c) from rfl]
    rw [cm]
    simp only [hl2, if_true, R.bind_ok]
  unfold P_lp__law_least_3
  generalize eNew (lComp (iV (eLv 0)) (gTp 2 (gsCons (gNm 7) (gsCons (gNm 8) (gsNil)))) (tTrue) (P_ce__law_least_1) [7, 8]) = LC at *
  simp [permL, lC, eC, e]
theorem least_spec (hls : PLessF 143 ls) (hsp : PSpreadF sp) (hbo : PBothF 71 bo) (hcu : RiseF k cu) (hsd : PartF k m sd) (hlb : LabF lb) (hm : m ≤ 100) {rows : List Row} {n : Nat} {g : Gh} (hn : n ≤ 100) (ho : RowsOk k n m rows) (hne : rows ≠ []) :
    ∃ e, IsP 143 (bestV n rows) e ∧ mFun 1 9 (P_b__law_least ls sp bo cu sd lb) [dRows rows] g = .ok e g := by
  have lm : m ≤ LIM := Nat.le_trans hm (by decide)
  have e1 := hlb rows g (Nat.le_trans ho.1 lm)
  change lb [dRows rows] g = .ok (.lst ((lblR rows).map D.int)) g at e1
  obtain ⟨d1, h1, e2⟩ := hsp _ g (ho.ls (Nat.le_trans hm (by decide)))
  obtain ⟨r0, a1, a2, a3⟩ := lot00 ho hne g
  obtain ⟨env', e, dz, t2, t3, t4, t5, t6, t7, t8, hz, rfl⟩ := forL_fold (tg := gNm 2) (b := P_lp__law_least_3 ls sp bo cu sd lb) (g := g) (fun (i : Nat) => D.int i) (lcolV rows) (fun v env => ∃ d1 s2 s3 s4 s5 s6 s7 s8, IsP 143 v d1 ∧ env = [.val (dRows rows), .val d1, s2, s3, s4, s5, s6, s7, s8]) (List.range n) (spreadR (lblR rows)) [.val (dRows rows), .val d1, .un, .un, .un, .un, .un, .un, .un] (by
    rintro c hcm v env ⟨d1, s2, s3, s4, s5, s6, s7, s8, h1, rfl⟩
    have hc : c < n := List.mem_range.mp hcm
    obtain ⟨d1', s3', s4', s5', s6', h1', e⟩ := least_column hls hsp hbo hcu hsd hlb hm ho hc (s3 := s3) (s4 := s4) (s5 := s5) (s6 := s6) (s7 := s7) (s8 := s8) (g := g) h1
    exact ⟨_, rfl, _, e, _, _, _, _, _, _, _, _, h1', rfl⟩) ⟨_, _, _, _, _, _, _, _, h1.mono (by decide), rfl⟩
  rw [← rangeD_map] at e
  refine ⟨dz, by rw [← least_eq]; exact hz, ?_⟩
  have rn : rngOk (n : Int) = true := rng_nat (by omega)
  simp [mFun, P_b__law_least, permL, e1, e2, a1, a2, a3, rn, e, endR]
end
/-! ### put otherwise -/
def OthF (n d : Nat) (f : FM) : Prop := ∀ (t : Tr) (l : Nat) (g : Gh), TrOk 40 n d t → HasBag l g → ∃ t' g', TrOk 40 n d t' ∧ HasBag l g' ∧ f [.loc l, dT t] g = .ok (dT t') g'
theorem other_spec {n d : Nat} {tk rt nm ot : FM} (ht : TakeF tk) (hr : RatF rt) (hnm : NumF nm) (hot : ∀ d', d = d' + 1 → OthF n d' ot) : OthF n d (mFun 2 3 (P_b__law_otherwise tk rt nm ot)) := fun t l g hT hb => by
  have lim2 : (2 : Nat) ≤ LIM := by decide
  have lim1 : (1 : Nat) ≤ LIM := by decide
  have lim3 : (3 : Nat) ≤ LIM := by decide
  have lim5 : (5 : Nat) ≤ LIM := by decide
  cases t with
  | leaf r =>
    obtain ⟨r1, g1, hr1, ⟨hb1, _⟩, e1⟩ := ht l g 41 hb (by decide) (by decide)
    obtain ⟨r2, g2, hr2, ⟨hb2, _⟩, e2⟩ := ht l g1 3 hb1 (by decide) (by decide)
    have e3 := hr (r1 - 20) (1 + r2) g2 (by omega) (bd_of (by omega))
    have hs : Sz 40 (Rat.divInt (r1 - 20) (1 + r2)) := .div (by omega) (bd_of (by omega)) (bd_of (by omega))
    refine ⟨.leaf (Rat.divInt (r1 - 20) (1 + r2)), g2, by cases d <;> exact hs, hb2, ?_⟩
    have a0 : atI [D.str "leaf", dR r] 0 = some (.str "leaf") := rfl
    have eqq : cmpop .Eq (.str "leaf") (.str "leaf") g = .ok (.bl true) g := eq_same (by decide +kernel)
    simp [mFun, P_b__law_otherwise, dT, a0, eqq, permL, e1, e2, e3, lim2, endR]
  | test c cut y z =>
    cases d with
    | zero => exact hT.elim
    | succ d =>
    obtain ⟨hc, hcut, hy, hz⟩ := hT
    obtain ⟨r1, g1, hr1, ⟨hb1, _⟩, e1⟩ := ht l g 4 hb (by decide) (by decide)
    have a0 : atI [D.str "test", .int c, dR cut, dT y, dT z] 0 = some (.str "test") := rfl
    have a3 : atI [D.str "test", .int c, dR cut, dT y, dT z] 3 = some (dT y) := rfl
    have a4 : atI [D.str "test", .int c, dR cut, dT y, dT z] 4 = some (dT z) := rfl
    have neq : cmpop .Eq (.str "test") (.str "leaf") g = .ok (.bl false) g := eqS_no str_test_leaf
    have k2 : cutD [D.str "test", .int c, dR cut, dT y, dT z] none (some 2) = [.str "test", .int c] := rfl
    have k3 : cutD [D.str "test", .int c, dR cut, dT y, dT z] none (some 3) = [.str "test", .int c, dR cut] := rfl
    have k4 : cutD [D.str "test", .int c, dR cut, dT y, dT z] none (some 4) = [.str "test", .int c, dR cut, dT y] := rfl
    have k5 : cutD [D.str "test", .int c, dR cut, dT y, dT z] (some 3) none = [dT y, dT z] := rfl
    have hD : ∀ (c : Nat) (cut : Rat) (y z : Tr), dT (.test c cut y z) = .tup [.str "test", .int c, dR cut, dT y, dT z] := fun _ _ _ _ => rfl
    rw [hD]
    by_cases w0 : r1 = 0
    · subst w0
      obtain ⟨x, g2, hx, hb2, e2⟩ := hnm l g1 hb1
      obtain ⟨r2, g3, hr2, ⟨hb3, _⟩, e3⟩ := ht l g2 2 hb2 (by decide) (by decide)
      have s13 : Sz 40 (Rat.divInt 1 3) := .div (by decide) (by decide) (by decide)
      have s0 : Sz 40 0 := ⟨(by decide : Bd 2 0).mono (by decide), (by decide : Bd 2 1).mono (by decide)⟩
      have z0 : D.tup [.int 0, .int 1] = dR 0 := rfl
      have z13 : D.tup [.int 1, .int 3] = dR (Rat.divInt 1 3) := dR_lit (by decide) (by decide)
      have : r2 = 0 ∨ r2 = 1 := by omega
      rcases this with rfl | rfl
      · cases x with
        | none =>
          refine ⟨.test c (Rat.divInt 1 3) y z, g3, ⟨hc, s13, hy, hz⟩, hb3, ?_⟩
          rw [hD, ← z13]
          have q0 : atI [D.non, .tup [.int 0, .int 1]] 0 = some .non := rfl
          have e2' : nm [.loc l] g1 = .ok .non g2 := e2
          simp [mFun, P_b__law_otherwise, a0, neq, permL, e1, k2, k5, e2', lim2, e3, q0, truD, lim1, lim3, lim5, endR]
        | some r =>
          refine ⟨.test c r y z, g3, ⟨hc, hx r rfl, hy, hz⟩, hb3, ?_⟩
          rw [hD]
          have q0 : atI [dR r, .tup [.int 0, .int 1]] 0 = some (dR r) := rfl
          have e2' : nm [.loc l] g1 = .ok (dR r) g2 := e2
          have tr : truD (dR r) = some true := rfl
          simp [mFun, P_b__law_otherwise, a0, neq, permL, e1, k2, k5, e2', lim2, e3, q0, tr, lim1, lim3, lim5, endR]
      · refine ⟨.test c 0 y z, g3, ⟨hc, s0, hy, hz⟩, hb3, ?_⟩
        rw [hD, ← z0]
        have q1 : atI [dN x, .tup [.int 0, .int 1]] 1 = some (.tup [.int 0, .int 1]) := rfl
        simp [mFun, P_b__law_otherwise, a0, neq, permL, e1, k2, k5, e2, lim2, e3, q1, truD, lim1, lim3, lim5, endR]
    by_cases w1 : r1 = 1
    · subst w1
      refine ⟨.test c cut z y, g1, ⟨hc, hcut, hz, hy⟩, hb1, ?_⟩
      rw [hD]
      simp [mFun, P_b__law_otherwise, a0, a3, a4, neq, permL, e1, k3, lim2, lim5, endR]
    by_cases w2 : r1 = 2
    · subst w2
      obtain ⟨y', g2, hy', hb2, e2⟩ := hot d rfl y l g1 hy hb1
      refine ⟨.test c cut y' z, g2, ⟨hc, hcut, hy', hz⟩, hb2, ?_⟩
      rw [hD]
      simp [mFun, P_b__law_otherwise, a0, a3, a4, neq, permL, e1, k3, e2, lim2, lim5, endR]
    · obtain ⟨z', g2, hz', hb2, e2⟩ := hot d rfl z l g1 hz hb1
      refine ⟨.test c cut y z', g2, ⟨hc, hcut, hy, hz'⟩, hb2, ?_⟩
      rw [hD]
      simp [mFun, P_b__law_otherwise, a0, a3, a4, neq, permL, e1, w0, w1, w2, k4, e2, lim1, lim5, endR]
/-! ### the law's check -/
theorem lgood_spec {n : Nat} {ig ls si le : FM} {t : Tr} {rows : List Row} {g : Gh} {x1 x2 : D} (hrp : rprOk (dRows rows) = true) (h1 : IsP 143 (bestV n rows) x1) (e1 : le [dRows rows] g = .ok x1 g) (h2 : IsP 143 (sIn t rows) x2) (e2 : si [dT t, dRows rows] g = .ok x2 g) (hls : PLessF 143 ls)
    (eg : ig [dT t, dRows rows] g = .ok (.bl (decide (sIn t rows ≤ bestV n rows))) g) : mFun 2 5 (P_b__law_good40 ig ls si le) [dRows rows, dT t] g = .ok (.bl true) g := by
  have er := oRepr_ok (g := g) hrp
  have e3 := hls _ _ _ _ g h1 h2
  have hd : (!decide (bestV n rows < sIn t rows)) = decide (sIn t rows ≤ bestV n rows) := by
    rw [Bool.eq_iff_iff]
    simp [Rat.not_lt]
  have eq : ∀ t : Bool, cmpop .Eq (.bl t) (.bl t) g = .ok (.bl true) g := fun t => by cases t <;> rfl
  have es := eqS_same (x := reprS (dRows rows)) (g := g)
  rw [← hd] at eg
  generalize decide (bestV n rows < sIn t rows) = q at *
  simp [mFun, P_b__law_good40, er, permL, e1, e2, e3, eg, isBool, eq, es, endR]
end GL
/-! GL part 40: the first of the least tests; any cut parts as a standing one. -/
namespace GL
open PySem L2
theorem lt_le {a b c : Rat} (h1 : a < b) (h2 : b ≤ c) : a < c := Rat.not_le.mp fun h => absurd (Rat.le_trans h2 h) (Rat.not_le.mpr h1)
theorem lt_tr {a b c : Rat} (h1 : a < b) (h2 : b < c) : a < c := lt_le h1 (Rat.le_of_lt h2)
/-! ### the cuts rise -/
theorem take_less {r : Rat} : ∀ (acc : List Rat), acc.Pairwise (· < ·) → acc.take (acc.filter fun a => decide (a < r)).length = acc.filter (fun a => decide (a < r)) ∧ acc.drop (acc.filter fun a => decide (a < r)).length = acc.filter (fun a => !decide (a < r))
  | [], _ => ⟨rfl, rfl⟩
  | a :: as, h => by
    have h := List.pairwise_cons.mp h
    by_cases q : a < r
    · have ih := take_less (r := r) as h.2
      simp only [List.filter_cons, q, decide_true, if_true, List.length_cons, List.take_succ_cons, List.drop_succ_cons, Bool.not_true, Bool.false_eq_true, if_false]
      exact ⟨by rw [ih.1], ih.2⟩
    · have hn : ∀ x ∈ as, ¬ x < r := fun x hx hlt => q (lt_tr (h.1 x hx) hlt)
      have e1 : as.filter (fun a => decide (a < r)) = [] := List.filter_eq_nil_iff.mpr fun x hx => by simpa using hn x hx
      have e2 : as.filter (fun a => !decide (a < r)) = as := List.filter_eq_self.mpr fun x hx => by simpa using hn x hx
      simp only [List.filter_cons, q, decide_false, e1, e2, Bool.false_eq_true, if_false, List.length_nil, List.take_zero, List.drop_zero, Bool.not_false, if_true]
      exact ⟨trivial, trivial⟩
theorem riseS_sorted {acc : List Rat} {x : Option Rat} (h : acc.Pairwise (· < ·)) : (riseS acc x).Pairwise (· < ·) := by
  unfold riseS
  split
  · exact h
  · rename_i r
    split
    · exact h
    · rename_i hm
      obtain ⟨e1, e2⟩ := take_less (r := r) acc h
      rw [e1, e2, List.append_assoc, List.singleton_append, List.pairwise_append]
      refine ⟨h.sublist List.filter_sublist, List.pairwise_cons.mpr ⟨fun y hy => ?_, h.sublist List.filter_sublist⟩, fun a ha y hy => ?_⟩
      · have hy := List.mem_filter.mp hy
        have h1 : ¬ y < r := by simpa using hy.2
        have h2 : y ≠ r := fun e => hm (e ▸ hy.1)
        exact Rat.lt_of_le_of_ne (Rat.not_lt.mp h1) (fun e => h2 e.symm)
      · have ha := List.mem_filter.mp ha
        have h1 : a < r := by simpa using ha.2
        rcases List.mem_cons.mp hy with rfl | hy
        · exact h1
        · have hy := List.mem_filter.mp hy
          have h2 : ¬ y < r := by simpa using hy.2
          exact lt_le h1 (Rat.not_lt.mp h2)
theorem rise_sorted (xs : List (Option Rat)) : (riseR xs).Pairwise (· < ·) := by
  have : ∀ (xs : List (Option Rat)) (acc : List Rat), acc.Pairwise (· < ·) → (xs.foldl riseS acc).Pairwise (· < ·) := fun xs => by
    induction xs with
    | nil => exact fun acc h => h
    | cons x xs ih => exact fun acc h => ih _ (riseS_sorted h)
  exact this xs [] List.Pairwise.nil
/-! ### the tests in their row -/
def valT (rows : List Row) (c : Nat) (s : Rat) : Rat := spreadR (lblR (yesR c s rows)) + spreadR (lblR (noR c s rows))
def blkT (rows : List Row) (c : Nat) : List Tst := ((riseR (colR c rows)).filter fun s => !(noR c s rows).isEmpty).map fun s => (valT rows c s, c, s)
theorem testS_blk {rows : List Row} {c : Nat} : ∀ (cuts : List Rat) (acc : List Tst), cuts.foldl (testS rows c) acc = acc ++ (cuts.filter fun s => !(noR c s rows).isEmpty).map fun s => (valT rows c s, c, s)
  | [], acc => by simp
  | s :: ss, acc => by
    rw [List.foldl_cons, testS_blk ss]
    unfold testS
    by_cases h : noR c s rows = []
    · have : (noR c s rows).isEmpty = true := by rw [h]; rfl
      rw [if_pos h, List.filter_cons, this]
      simp
    · have : (noR c s rows).isEmpty = false := by cases q : noR c s rows with | nil => exact absurd q h | cons => rfl
      rw [if_neg h, List.filter_cons, this]
      simp [valT]
theorem tests_eq (n : Nat) (rows : List Row) : testsR n rows = (List.range n).flatMap (blkT rows) := by
  have : ∀ (cs : List Nat) (acc : List Tst), cs.foldl (testC rows) acc = acc ++ cs.flatMap (blkT rows) := fun cs => by
    induction cs with
    | nil => simp
    | cons c cs ih =>
      intro acc
      rw [List.foldl_cons, ih]
      unfold testC
      rw [testS_blk]
      simp [blkT]
  unfold testsR
  rw [this]; simp
theorem tests_mem {n : Nat} {rows : List Row} {c : Nat} {s : Rat} (hc : c < n) (hs : some s ∈ colR c rows) (hn : noR c s rows ≠ []) : (valT rows c s, c, s) ∈ testsR n rows := by
  rw [tests_eq, List.mem_flatMap]
  refine ⟨c, List.mem_range.mpr hc, ?_⟩
  unfold blkT
  refine List.mem_map.mpr ⟨s, List.mem_filter.mpr ⟨rise_mem.mpr hs, ?_⟩, rfl⟩
  cases q : noR c s rows with
  | nil => exact absurd q hn
  | cons => rfl
def lexT (a b : Tst) : Prop := a.2.1 < b.2.1 ∨ (a.2.1 = b.2.1 ∧ a.2.2 < b.2.2)
theorem blk_sorted (rows : List Row) (c : Nat) : (blkT rows c).Pairwise lexT := by
  unfold blkT
  rw [List.pairwise_map]
  exact ((rise_sorted _).sublist List.filter_sublist).imp fun h => .inr ⟨rfl, h⟩
theorem blk_col {rows : List Row} {c : Nat} {t : Tst} (h : t ∈ blkT rows c) : t.2.1 = c := by
  obtain ⟨s, _, rfl⟩ := List.mem_map.mp h
  rfl
theorem tests_sorted (n : Nat) (rows : List Row) : (testsR n rows).Pairwise lexT := by
  rw [tests_eq]
  have : ∀ cs : List Nat, cs.Pairwise (· < ·) → (cs.flatMap (blkT rows)).Pairwise lexT := fun cs => by
    induction cs with
    | nil => intro _; simp
    | cons c cs ih =>
      intro h
      have h := List.pairwise_cons.mp h
      rw [List.flatMap_cons, List.pairwise_append]
      refine ⟨blk_sorted rows c, ih h.2, fun a ha b hb => ?_⟩
      obtain ⟨c', hc', hb'⟩ := List.mem_flatMap.mp hb
      exact .inl (by rw [blk_col ha, blk_col hb']; exact h.1 c' hc')
  exact this _ List.pairwise_lt_range
/-! ### the first least -/
theorem best_first : ∀ (ts : List Tst) (b : Option (Nat × Rat) × Rat), (ts.foldl bestS b = b) ∨ ∃ pre t post, ts = pre ++ t :: post ∧ ts.foldl bestS b = (some t.2, t.1) ∧ t.1 < b.2 ∧ ∀ x ∈ pre, t.1 < x.1
  | [], b => .inl rfl
  | t :: ts, b => by
    rw [List.foldl_cons]
    by_cases q : t.1 < b.2
    · have e0 : bestS b t = (some t.2, t.1) := by unfold bestS; rw [if_pos q]
      rw [e0]
      rcases best_first ts (some t.2, t.1) with h | ⟨pre, t', post, e, h1, h2, h3⟩
      · exact .inr ⟨[], t, ts, rfl, h, q, fun x hx => (nomatch hx)⟩
      · refine .inr ⟨t :: pre, t', post, by rw [e]; rfl, h1, lt_tr h2 q, fun x hx => ?_⟩
        rcases List.mem_cons.mp hx with rfl | hx
        · exact h2
        · exact h3 x hx
    · have e0 : bestS b t = b := by unfold bestS; rw [if_neg q]
      rw [e0]
      rcases best_first ts b with h | ⟨pre, t', post, e, h1, h2, h3⟩
      · exact .inl h
      · refine .inr ⟨t :: pre, t', post, by rw [e]; rfl, h1, h2, fun x hx => ?_⟩
        rcases List.mem_cons.mp hx with rfl | hx
        · exact lt_le h2 (Rat.not_lt.mp q)
        · exact h3 x hx
theorem lex_asymm {a b : Tst} (h1 : lexT a b) (h2 : lexT b a) : False := by
  rcases h1 with h1 | ⟨e1, h1⟩ <;> rcases h2 with h2 | ⟨e2, h2⟩
  · omega
  · omega
  · omega
  · exact absurd (lt_tr h1 h2) (Rat.lt_irrefl)
theorem lex_irr {a : Tst} (h : lexT a a) : False := lex_asymm h h
/-- a test ahead of the one told makes the spreads more -/
theorem best_ahead {n : Nat} {rows : List Row} {p : Nat × Rat} (h : bestR n rows = some p) {t : Tst} (ht : t ∈ testsR n rows) (hl : t.2.1 < p.1 ∨ (t.2.1 = p.1 ∧ t.2.2 < p.2)) : bestV n rows < t.1 := by
  rcases best_first (testsR n rows) (none, spreadR (lblR rows)) with q | ⟨pre, t', post, e, h1, h2, h3⟩
  · unfold bestR at h
    rw [q] at h
    exact nomatch h
  · have hv : bestV n rows = t'.1 := by unfold bestV; rw [h1]
    have hp : t'.2 = p := by unfold bestR at h; rw [h1] at h; exact Option.some.inj h
    rw [hv]
    have hl : lexT t t' := by unfold lexT; rw [hp]; exact hl
    rw [e] at ht
    rcases List.mem_append.mp ht with ht | ht
    · exact h3 t ht
    · exfalso
      rcases List.mem_cons.mp ht with rfl | ht
      · exact lex_irr hl
      · have hs := tests_sorted n rows
        rw [e, List.pairwise_append] at hs
        exact lex_asymm hl ((List.pairwise_cons.mp hs.2.1).1 t ht)
theorem best_less {n : Nat} {rows : List Row} {p : Nat × Rat} (h : bestR n rows = some p) : bestV n rows < spreadR (lblR rows) := by
  rcases best_first (testsR n rows) (none, spreadR (lblR rows)) with q | ⟨pre, t', post, e, h1, h2, h3⟩
  · unfold bestR at h
    rw [q] at h
    exact nomatch h
  · unfold bestV; rw [h1]; exact h2
/-! ### any cut -/
theorem max_mem : ∀ (l : List Rat), l ≠ [] → ∃ m ∈ l, ∀ x ∈ l, x ≤ m
  | [], h => absurd rfl h
  | [a], _ => ⟨a, by simp, fun x hx => by simp at hx; subst hx; exact Rat.le_refl⟩
  | a :: b :: l, _ => by
    obtain ⟨m, hm, h⟩ := max_mem (b :: l) (by simp)
    rcases Rat.le_total (a := a) (b := m) with q | q
    · refine ⟨m, List.mem_cons_of_mem _ hm, fun x hx => ?_⟩
      rcases List.mem_cons.mp hx with rfl | hx
      · exact q
      · exact h x hx
    · refine ⟨a, List.mem_cons_self, fun x hx => ?_⟩
      rcases List.mem_cons.mp hx with rfl | hx
      · exact Rat.le_refl
      · exact Rat.le_trans (h x hx) q
theorem isYes_iff {c : Nat} {r : Rat} {xs : List (Option Rat)} : isYes c r xs = true ↔ ∃ v, xs[c]? = some (some v) ∧ v ≤ r := by
  unfold isYes
  split
  · rename_i v h
    simp [h]
  · rename_i h
    simp only [Bool.false_eq_true, false_iff]
    rintro ⟨v, hv, _⟩
    exact h v hv
theorem cut_std {c : Nat} {r : Rat} {rows : List Row} (h : yesR c r rows ≠ []) : ∃ s, some s ∈ colR c rows ∧ yesR c s rows = yesR c r rows ∧ noR c s rows = noR c r rows := by
  have hl : (rows.filterMap fun row => match row.1[c]? with | some (some v) => if v ≤ r then some v else none | _ => none) ≠ [] := by
    intro e
    apply h
    unfold yesR
    rw [List.filter_eq_nil_iff]
    intro row hr hy
    obtain ⟨v, hv, hle⟩ := isYes_iff.mp hy
    have := List.filterMap_eq_nil_iff.mp e row hr
    simp [hv, hle] at this
  obtain ⟨s, hs, hmax⟩ := max_mem _ hl
  obtain ⟨row, hr, he⟩ := List.mem_filterMap.mp hs
  have hsr : row.1[c]? = some (some s) ∧ s ≤ r := by
    split at he
    · rename_i v hv
      split at he
      · rename_i hle
        cases he
        exact ⟨hv, hle⟩
      · exact nomatch he
    · exact nomatch he
  have hsame : ∀ row ∈ rows, isYes c s row.1 = isYes c r row.1 := fun row hrow => by
    rw [Bool.eq_iff_iff, isYes_iff, isYes_iff]
    constructor
    · rintro ⟨v, hv, hle⟩
      exact ⟨v, hv, Rat.le_trans hle hsr.2⟩
    · rintro ⟨v, hv, hle⟩
      refine ⟨v, hv, hmax v (List.mem_filterMap.mpr ⟨row, hrow, ?_⟩)⟩
      simp [hv, hle]
  refine ⟨s, ?_, ?_, ?_⟩
  · unfold colR
    exact List.mem_map.mpr ⟨row, hr, by rw [hsr.1]; rfl⟩
  · unfold yesR
    exact List.filter_congr fun row hrow => hsame row hrow
  · unfold noR
    exact List.filter_congr fun row hrow => by rw [hsame row hrow]
theorem spread_nil : spreadR (lblR []) = 0 := rfl
theorem no_all {c : Nat} {r : Rat} {rows : List Row} (h : yesR c r rows = []) : noR c r rows = rows := by
  unfold yesR at h
  unfold noR
  rw [List.filter_eq_self]
  intro x hx
  have := List.filter_eq_nil_iff.mp h x hx
  simpa using this
/-- no test with any cut makes the spreads less -/
theorem any_cut {n c : Nat} {rows : List Row} (hc : c < n) (r : Rat) : bestV n rows ≤ valT rows c r := by
  unfold valT
  by_cases h : yesR c r rows = []
  · rw [no_all h, h, spread_nil, Rat.zero_add]
    exact bestV_le n rows
  · by_cases h0 : noR c r rows = []
    · rw [yes_all h0, h0, spread_nil, Rat.add_zero]
      exact bestV_le n rows
    · obtain ⟨s, hs, e1, e2⟩ := cut_std h
      have := tests_mem hc hs (by rw [e2]; exact h0)
      have h1 := ((best_le_iff (x := bestV n rows) (testsR n rows) (none, spreadR (lblR rows))).mp Rat.le_refl).2 _ this
      unfold valT at h1
      rw [e1, e2] at h1
      exact h1
/-- a standing cut ahead of the one told makes them more -/
theorem ahead {n c : Nat} {rows : List Row} {p : Nat × Rat} {s : Rat} (h : bestR n rows = some p) (hc : c < n) (hs : some s ∈ colR c rows) (hl : c < p.1 ∨ (c = p.1 ∧ s < p.2)) : bestV n rows < valT rows c s := by
  by_cases h0 : noR c s rows = []
  · unfold valT
    rw [yes_all h0, h0, spread_nil, Rat.add_zero]
    exact best_less h
  · exact best_ahead h (tests_mem hc hs h0) hl
end GL
/-! GL part 41: the best test, looked at with any cut. -/
namespace GL
open PySem L2
noncomputable def P_b__law_spread_of (c_spread_of : FM) (c__law_labels : FM) : MS := sRet (eCall c_spread_of 1 0 [0] [] (lCons (eCall c__law_labels 1 0 [0] [] (lCons (eLv 0) (lNil)) (lNil)) (lNil)) (lNil))
noncomputable def P_b__law_test_spread (c__law_both : FM) (c__law_sides : FM) (c__law_spread_of : FM) : MS := sSeq (sAsg (eCall c__law_sides 3 0 [0, 1, 2] [] (lCons (eLv 0) (lCons (eLv 1) (lCons (eLv 2) (lNil)))) (lNil)) (gSq 2 (gsCons (gNm 3) (gsCons (gNm 4) (gsNil))))) (sRet (eCall c__law_both 2 0 [0, 1] [] (lCons (eCall c__law_spread_of 1 0 [0] [] (lCons (eLv 3) (lNil)) (lNil)) (lCons (eCall c__law_spread_of 1 0 [0] [] (lCons (eLv 4) (lNil)) (lNil)) (lNil))) (lNil)))
noncomputable def P_ce__law_least_right_1 : ME := eSub (eLv 8) (eLv 4)
noncomputable def P_ce__law_least_right_2 : ME := eTup (lCons (eBin .Add (eBin .Mult (eC (.int 2)) (eSub (eLv 10) (eC (.int 0)))) (eSub (eLv 10) (eC (.int 1)))) (lCons (eBin .Mult (eC (.int 2)) (eSub (eLv 10) (eC (.int 1)))) (lNil)))
noncomputable def P_lp__law_least_right_3 (c__law_less : FM) (c__law_test_spread : FM) : MS := sSeq (sSet 7 (eCall c__law_test_spread 3 0 [0, 1, 2] [] (lCons (eLv 1) (lCons (eLv 4) (lCons (eLv 6) (lNil)))) (lNil))) (sSeq (sIf (tV (eCall c__law_less 2 0 [0, 1] [] (lCons (eLv 7) (lCons (eLv 3) (lNil))) (lNil))) (sRet (eC (.bl false))) (sSkip)) (sIf (tAnd (tV (eCmp .Eq (eSub (eLv 2) (eC (.int 0))) (eC (.str "test")))) (tAnd (tV (eCmp .In (eLv 6) (eLv 5))) (tNot (tV (eCall c__law_less 2 0 [0, 1] [] (lCons (eLv 3) (lCons (eLv 7) (lNil))) (lNil)))))) (sIf (tOr (tV (eCmp .Lt (eLv 4) (eSub (eLv 2) (eC (.int 1))))) (tAnd (tV (eCmp .Eq (eLv 4) (eSub (eLv 2) (eC (.int 1))))) (tV (eCall c__law_less 2 0 [0, 1] [] (lCons (eLv 6) (lCons (eSub (eLv 2) (eC (.int 2))) (lNil))) (lNil))))) (sRet (eC (.bl false))) (sSkip)) (sSkip)))
noncomputable def P_lp__law_least_right_4 (c__law_less : FM) (c__law_cuts : FM) (c__law_test_spread : FM) : MS := sSeq (sSet 5 (eCall c__law_cuts 1 0 [0] [] (lCons (eNew (lComp (iV (eLv 1)) (gTp 2 (gsCons (gNm 8) (gsCons (gNm 9) (gsNil)))) (tTrue) (P_ce__law_least_right_1) [8, 9])) (lNil)) (lNil))) (sFor (iV (eBin .Add (eBin .Add (eLv 5) (eNew (lComp (iV (eLv 5)) (gNm 10) (tTrue) (P_ce__law_least_right_2) [10]))) (eNew (fLst (lCons (eTup (lCons (eNeg (eBin .Pow (eC (.int 10)) (eC (.int 7)))) (lCons (eC (.int 1)) (lNil)))) (lCons (eTup (lCons (eC (.int 3)) (lCons (eC (.int 7)) (lNil)))) (lNil))))))) (gNm 6) (P_lp__law_least_right_3 c__law_less c__law_test_spread))
noncomputable def P_b__law_least_right (c__law_less : FM) (c__law_spread : FM) (c__law_cuts : FM) (c__law_labels : FM) (c__law_test_spread : FM) : MS := sSeq (sSet 3 (eCall c__law_spread 1 0 [0] [] (lCons (eCall c__law_labels 1 0 [0] [] (lCons (eLv 1) (lNil)) (lNil)) (lNil)) (lNil))) (sSeq (sIf (tV (eCmp .Eq (eSub (eLv 2) (eC (.int 0))) (eC (.str "test")))) (sSet 3 (eCall c__law_test_spread 3 0 [0, 1, 2] [] (lCons (eLv 1) (lCons (eSub (eLv 2) (eC (.int 1))) (lCons (eSub (eLv 2) (eC (.int 2))) (lNil)))) (lNil))) (sSkip)) (sSeq (sFor (iRange1 (eBi oLen (lCons (eSub (eSub (eLv 1) (eC (.int 0))) (eC (.int 0))) (lNil)))) (gNm 4) (P_lp__law_least_right_4 c__law_less c__law_cuts c__law_test_spread)) (sRet (eOr (eCmp .Eq (eSub (eLv 2) (eC (.int 0))) (eC (.str "leaf"))) (eCall c__law_less 2 0 [0, 1] [] (lCons (eLv 3) (lCons (eCall c__law_spread 1 0 [0] [] (lCons (eCall c__law_labels 1 0 [0] [] (lCons (eLv 1) (lNil)) (lNil)) (lNil)) (lNil)) (lNil))) (lNil))))))
noncomputable def P_ce__law_good38_1 (c__law_labels : FM) : ME := eCall c__law_labels 1 0 [0] [] (lCons (eLv 4) (lNil)) (lNil)
noncomputable def P_ce__law_good38_2 (c__law_ratio : FM) : ME := eTup (lCons (eC (.str "leaf")) (lCons (eCall c__law_ratio 2 0 [0, 1] [] (lCons (eBi oSum (lCons (eLv 5) (lNil))) (lCons (eBi oLen (lCons (eLv 5) (lNil))) (lNil))) (lNil)) (lNil)))
noncomputable def P_b__law_good38 (c_tree_of : FM) (c_is_good : FM) (c__law_ratio : FM) (c__law_sides : FM) (c__law_labels : FM) (c__law_least_right : FM) : MS := sSeq (sSet 2 (eCall c_tree_of 1 1 [0, 1] [] (lCons (eLv 1) (lNil)) (lCons (eC (.int 1)) (lNil)))) (sSeq (sIf (tOr (tNot (tV (eCall c__law_least_right 3 0 [0, 1, 2] [] (lCons (eLv 0) (lCons (eLv 1) (lCons (eLv 2) (lNil)))) (lNil)))) (tV (eIsB .IsNot (eCall c_is_good 2 0 [0, 1] [] (lCons (eLv 2) (lCons (eLv 1) (lNil))) (lNil)) (eC (.bl true))))) (sRet (eC (.bl false))) (sSkip)) (sSeq (sIf (tV (eCmp .Eq (eSub (eLv 2) (eC (.int 0))) (eC (.str "leaf")))) (sRet (eCmp .Eq (eLv 2) (eTup (lCons (eC (.str "leaf")) (lCons (eCall c__law_ratio 2 0 [0, 1] [] (lCons (eBi oSum (lCons (eCall c__law_labels 1 0 [0] [] (lCons (eLv 1) (lNil)) (lNil)) (lNil))) (lCons (eBi oLen (lCons (eLv 1) (lNil))) (lNil))) (lNil)) (lNil)))))) (sSkip)) (sSeq (sSet 3 (eNew (lComp (iV (eCall c__law_sides 3 0 [0, 1, 2] [] (lCons (eLv 1) (lCons (eSub (eLv 2) (eC (.int 1))) (lCons (eSub (eLv 2) (eC (.int 2))) (lNil)))) (lNil))) (gNm 4) (tTrue) (P_ce__law_good38_1 c__law_labels) [4]))) (sSeq (sIf (tOr (tV (eCmp .NotEq (eSub (eLv 2) (eC (.int 0))) (eC (.str "test")))) (tOr (tV (eCmp .NotEq (eBi oLen (lCons (eLv 2) (lNil))) (eC (.int 5)))) (tV (eCmp .In (eNew (fLst (lNil))) (eLv 3))))) (sRet (eC (.bl false))) (sSkip)) (sRet (eCmp .Eq (eNew (lBi oListF (lCons (eCut (eLv 2) (oSome (eC (.int 3))) (oNone)) (lNil)))) (eNew (lComp (iV (eLv 3)) (gNm 5) (tTrue) (P_ce__law_good38_2 c__law_ratio) [5]))))))))

def PPartF (k m : Nat) (f : FM) : Prop := ∀ (rows : List Row) (n c : Nat) (cut : Rat) (dc : D) (g : Gh), RowsOk k n m rows → c < n → IsP 143 cut dc →
  f [dRows rows, .int c, dc] g = .ok (.tup [dRows (rows.filter fun r => isYes c cut r.1), dRows (rows.filter fun r => !isYes c cut r.1)]) g
theorem psides_spec {k m : Nat} {ls : FM} (hk : k ≤ 143) (hl : PLessF 143 ls) (hm : m ≤ 1000) : PPartF k m (mFun 3 8 (P_b__law_sides ls)) := fun rows n c cut dc g hr hc hs => by
  have hdc : ∀ g : Gh, deref g dc = dc := fun g => by obtain ⟨_, _, rfl, _⟩ := hs; rfl
  let F : List Row × List Row → Row → List Row × List Row := fun p r => if isYes c cut r.1 then (p.1 ++ [r], p.2) else (p.1, p.2 ++ [r])
  have fold : ∀ (l : List Row) (p : List Row × List Row), l.foldl F p = (p.1 ++ l.filter (fun r => isYes c cut r.1), p.2 ++ l.filter (fun r => !isYes c cut r.1)) := fun l => by
    induction l with
    | nil => intro p; simp
    | cons r l ih =>
      intro p
      rw [List.foldl_cons, ih]
      by_cases q : isYes c cut r.1 = true
      · simp [F, q, List.filter_cons]
      · simp [F, q, List.filter_cons]
  have hL : (1000 : Nat) < LIM := by decide
  obtain ⟨env', e, s5, s6, s7, rfl⟩ := forL_foldP (tg := gTp 2 (gsCons (gNm 5) (gsCons (gNm 6) (gsNil)))) (b := P_lp__law_sides_1 ls) (g := g) dRow F (([], []) : List Row × List Row) (fun p env => ∃ s5 s6 s7, env = [.val (dRows rows), .val (.int c), .val dc, .own (p.1.map dRow), .own (p.2.map dRow), s5, s6, s7]) rows (fun pre r post hp env hR => by
    obtain ⟨s5, s6, s7, rfl⟩ := hR
    have hrm : r ∈ rows := by rw [hp]; simp
    obtain ⟨⟨hn, hx⟩, _⟩ := hr.2 r hrm
    have hc' : c < r.1.length := by omega
    have hpl : pre.length ≤ 1000 := by
      have : rows.length = pre.length + (post.length + 1) := by rw [hp]; simp
      have := hr.1
      omega
    have l1 : (pre.foldl F ([], [])).1.length < LIM := by
      rw [fold]; simp only [List.nil_append]; exact Nat.lt_of_le_of_lt (Nat.le_trans (List.length_filter_le ..) hpl) hL
    have l2 : (pre.foldl F ([], [])).2.length < LIM := by
      rw [fold]; simp only [List.nil_append]; exact Nat.lt_of_le_of_lt (Nat.le_trans (List.length_filter_le ..) hpl) hL
    generalize pre.foldl F ([], []) = p at *
    have at1 : atI (r.1.map dN) (c : Int) = some (dN r.1[c]) := by
      have := atI_nat (l := r.1.map dN) (i := c) (by simpa using hc')
      simpa using this
    have hsub : ∀ g : Gh, subD (dNs r.1) (.int c) g = .ok (dN r.1[c]) g := fun g => by simp [dNs, at1]
    have hy : isYes c cut r.1 = match r.1[c] with | none => false | some x => decide (x ≤ cut) := by
      unfold isYes
      rw [List.getElem?_eq_getElem hc']
      cases r.1[c] <;> rfl
    have hxc := hx r.1[c] (List.getElem_mem hc')
    generalize r.1[c] = z at *
    have tv : (eAnd (eCmp .IsNot (eSub (eLv 5) (eLv 1)) (eC .non)) (eNot (tV (eCall ls 2 0 [0, 1] [] (lCons (eLv 2) (lCons (eSub (eLv 5) (eLv 1)) (lNil))) (lNil))))) [.val (dRows rows), .val (.int c), .val dc, .own (p.1.map dRow), .own (p.2.map dRow), .val (dNs r.1), .val (.int r.2), s7] g = .ok (.bl (isYes c cut r.1)) g := by
      rw [hy]
      cases z with
      | none => simp [hsub, dNs_deref]
      | some x =>
        have e := hl cut x dc (dR x) g hs ((isP_dR (hxc x rfl)).mono hk)
        have nn : (!decide (cut < x)) = decide (x ≤ cut) := by
          by_cases q : cut < x
          · have : ¬ x ≤ cut := Rat.not_le.mpr q
            simp [q, this]
          · have : x ≤ cut := Rat.not_lt.mp q
            simp [q, this]
        simp [hsub, dNs_deref, permL, dN, e, nn]
    refine ⟨[.val (dRows rows), .val (.int c), .val dc, .own (p.1.map dRow), .own (p.2.map dRow), .val (dNs r.1), .val (.int r.2), s7], by simp [dRow], ?_⟩
    refine ⟨[.val (dRows rows), .val (.int c), .val dc, .own ((F p r).1.map dRow), .own ((F p r).2.map dRow), .val (dNs r.1), .val (.int r.2), .val (.bl (isYes c cut r.1))], ?_, _, _, _, rfl⟩
    unfold P_lp__law_sides_1
    generalize (eAnd (eCmp .IsNot (eSub (eLv 5) (eLv 1)) (eC .non)) (eNot (tV (eCall ls 2 0 [0, 1] [] (lCons (eLv 2) (lCons (eSub (eLv 5) (eLv 1)) (lNil))) (lNil))))) = TV at *
    by_cases q : isYes c cut r.1 = true
    · simp [tv, q, lim2, l1, l2, F, dRow]
    · have q : isYes c cut r.1 = false := by simpa using q
      simp [tv, q, lim2, l1, l2, F, dRow]) rows [] [.val (dRows rows), .val (.int c), .val dc, .own [], .own [], .un, .un, .un] rfl ⟨_, _, _, rfl⟩
  have lim0 : (0 : Nat) ≤ LIM := by decide
  rw [fold] at e
  simp only [List.nil_append] at e
  have it : itemsD (dRows rows) g = .ok (rows.map dRow, none) g := rfl
  simp [mFun, P_b__law_sides, it, e, lim2, endR]
  exact ⟨rfl, rfl⟩

def TSpF (k m : Nat) (f : FM) : Prop := ∀ (rows : List Row) (n c : Nat) (cut : Rat) (dc : D) (g : Gh), RowsOk k n m rows → c < n → IsP 143 cut dc → ∃ e, IsP 143 (valT rows c cut) e ∧ f [dRows rows, .int c, dc] g = .ok e g
theorem spof_spec {k n m : Nat} {sp lb : FM} (hs : SpreadF sp) (hl : LabF lb) (hm : m ≤ 15) {rows : List Row} {g : Gh} (ho : RowsOk k n m rows) : mFun 1 1 (P_b__law_spread_of sp lb) [dRows rows] g = .ok (dR (spreadR (lblR rows))) g := by
  have e1 := hl rows g (Nat.le_trans ho.1 (Nat.le_trans hm (by decide)))
  change lb [dRows rows] g = .ok (.lst ((lblR rows).map D.int)) g at e1
  have e2 := hs _ g (ho.ls (Nat.le_trans hm (by decide)))
  simp [mFun, P_b__law_spread_of, permL, e1, e2, endR]
theorem tsp_spec {k m : Nat} {bo sd so : FM} (hbo : PBothF 71 bo) (hsd : PPartF k m sd) (hm : m ≤ 15) (hso : ∀ (rows : List Row) (n : Nat) (g : Gh), RowsOk k n m rows → so [dRows rows] g = .ok (dR (spreadR (lblR rows))) g) : TSpF k m (mFun 3 5 (P_b__law_test_spread bo sd so)) := fun rows n c cut dc g ho hc hs => by
  have e1 := hsd rows n c cut dc g ho hc hs
  change sd [dRows rows, .int c, dc] g = .ok (.tup [dRows (yesR c cut rows), dRows (noR c cut rows)]) g at e1
  have oy : RowsOk k n m (yesR c cut rows) := ho.filter _
  have on : RowsOk k n m (noR c cut rows) := ho.filter _
  have e2 := hso _ n g oy
  have e3 := hso _ n g on
  have z1 : Sz 71 (spreadR (lblR (yesR c cut rows))) := (sIn_sz hm (t := .leaf 0) oy).mono (by decide)
  have z2 : Sz 71 (spreadR (lblR (noR c cut rows))) := (sIn_sz hm (t := .leaf 0) on).mono (by decide)
  obtain ⟨e, he, e4⟩ := hbo _ _ _ _ g (isP_dR z1) (isP_dR z2)
  refine ⟨e, he, ?_⟩
  simp [mFun, P_b__law_test_spread, permL, e1, e2, e3, e4, endR]
/-! ### one look -/
theorem isP_ok {k : Nat} {r : Rat} {d : D} (h : IsP k r d) : okD d 64 = true := by obtain ⟨_, _, rfl, _⟩ := h; rfl
theorem isP_eq {k : Nat} {r s : Rat} {d : D} (h : IsP k r d) (e : eqD (dR s) d = true) : r = s := by
  obtain ⟨t, u, rfl, hu, _, _, hr⟩ := h
  have e : s.num = t ∧ (s.den : Int) = u := by simpa [eqD, eqDs, dR] using e
  rw [hr, ← e.1, ← e.2, Rat.num_divInt_den]
theorem mem_P {k : Nat} {r : Rat} {d : D} (h : IsP k r d) : ∀ (cuts : List Rat), memD d (cuts.map dR) = true → r ∈ cuts
  | [], q => by simp [memD] at q
  | s :: ss, q => by
    unfold memD at q
    rw [List.map_cons, List.any_cons, Bool.or_eq_true] at q
    rcases q with q | q
    · rw [isP_eq h q]; exact List.mem_cons_self
    · exact List.mem_cons_of_mem _ (mem_P h ss q)
theorem in_ap {d : D} {xs : List D} {g : Gh} (h1 : okD d 64 = true) (h2 : okD (.lst xs) 64 = true) : cmpop .In d (.lst xs) g = .ok (.bl (memD d xs)) g := by
  have e1 := okD_deref (g := g) h1
  show inD (deref g d) (deref g (.lst xs)) g = _
  rw [e1]
  show guardR (okD d 64 && okD (.lst xs) 64) (.bl (memD d xs)) g = _
  rw [h1, h2]; rfl
theorem okD_cuts (cuts : List Rat) : okD (.lst (cuts.map dR)) 64 = true := by
  simp only [okD]
  exact okDs_map (fun x => rfl) cuts
/-- what stands of the tree told -/
def toldR (n : Nat) (rows : List Row) : Tr := treeR n 1 rows
theorem look_leaf {k n m : Nat} {ls ts : FM} (hls : PLessF 143 ls) (hts : TSpF k m ts) {rows : List Row} {c : Nat} {g : Gh} (ho : RowsOk k n m rows) (hc : c < n) {r0 : Rat} {dl dc : D} {r : Rat} (hl : IsP 143 (bestV n rows) dl) (hp : IsP 143 r dc) {s0 s7 s8 s9 s10 : Sl} {d5 : D} :
    ∃ e7, P_lp__law_least_right_3 ls ts [s0, .val (dRows rows), .val (dT (.leaf r0)), .val dl, .val (.int c), .val d5, .val dc, s7, s8, s9, s10] g = .nx [s0, .val (dRows rows), .val (dT (.leaf r0)), .val dl, .val (.int c), .val d5, .val dc, .val e7, s8, s9, s10] g := by
  obtain ⟨e7, h7, e1⟩ := hts rows n c r dc g ho hc hp
  have e2 := hls _ _ _ _ g h7 hl
  have hno : ¬ valT rows c r < bestV n rows := Rat.not_lt.mpr (any_cut hc r)
  rw [decide_eq_false hno] at e2
  have a0 : atI [D.str "leaf", dR r0] 0 = some (.str "leaf") := rfl
  have neq : cmpop .Eq (.str "leaf") (.str "test") g = .ok (.bl false) g := eqS_no (by decide +kernel)
  exact ⟨e7, by simp [P_lp__law_least_right_3, permL, e1, e2, dT, a0, neq]⟩
theorem look_test {k n m : Nat} {ls ts : FM} (hls : PLessF 143 ls) (hts : TSpF k m ts) (hk : k ≤ 143) {rows : List Row} {c : Nat} {g : Gh} (ho : RowsOk k n m rows) (hc : c < n) {p : Nat × Rat} (hb : bestR n rows = some p) {y z : Tr} {dl dc : D} {r : Rat} (hl : IsP 143 (bestV n rows) dl) (hp : IsP 143 r dc) {s0 s7 s8 s9 s10 : Sl} :
    ∃ e7, P_lp__law_least_right_3 ls ts [s0, .val (dRows rows), .val (dT (.test p.1 p.2 y z)), .val dl, .val (.int c), .val (.lst ((riseR (colR c rows)).map dR)), .val dc, s7, s8, s9, s10] g = .nx [s0, .val (dRows rows), .val (dT (.test p.1 p.2 y z)), .val dl, .val (.int c), .val (.lst ((riseR (colR c rows)).map dR)), .val dc, .val e7, s8, s9, s10] g := by
  obtain ⟨e7, h7, e1⟩ := hts rows n c r dc g ho hc hp
  have e2 := hls _ _ _ _ g h7 hl
  have hno : ¬ valT rows c r < bestV n rows := Rat.not_lt.mpr (any_cut hc r)
  rw [decide_eq_false hno] at e2
  have e3 := hls _ _ _ _ g hl h7
  have hps : Sz k p.2 := (best_some ho hb).2.1
  have e4 := hls _ _ _ _ g hp ((isP_dR hps).mono hk)
  have a0 : atI [D.str "test", .int p.1, dR p.2, dT y, dT z] 0 = some (.str "test") := rfl
  have a1 : atI [D.str "test", .int p.1, dR p.2, dT y, dT z] 1 = some (.int p.1) := rfl
  have a2 : atI [D.str "test", .int p.1, dR p.2, dT y, dT z] 2 = some (dR p.2) := rfl
  have eqq : cmpop .Eq (.str "test") (.str "test") g = .ok (.bl true) g := eq_same (by decide +kernel)
  have ein := in_ap (g := g) (isP_ok hp) (okD_cuts (riseR (colR c rows)))
  refine ⟨e7, ?_⟩
  rw [show dT (.test p.1 p.2 y z) = .tup [.str "test", .int p.1, dR p.2, dT y, dT z] from rfl]
  cases hm : memD dc ((riseR (colR c rows)).map dR) with
  | false =>
    rw [hm] at ein
    simp [P_lp__law_least_right_3, permL, e1, e2, a0, eqq, ein]
  | true =>
    rw [hm] at ein
    have hs : some r ∈ colR c rows := rise_mem.mp (mem_P hp _ hm)
    by_cases hlt : bestV n rows < valT rows c r
    · rw [decide_eq_true hlt] at e3
      simp [P_lp__law_least_right_3, permL, e1, e2, a0, eqq, ein, e3]
    · rw [decide_eq_false hlt] at e3
      have q1 : ¬ c < p.1 := fun q => hlt (ahead hb hc hs (.inl q))
      have q1' : ¬ ((c : Int) < (p.1 : Int)) := by omega
      by_cases qe : c = p.1
      · have q2 : ¬ r < p.2 := fun q => hlt (ahead hb hc hs (.inr ⟨qe, q⟩))
        rw [decide_eq_false q2] at e4
        obtain ⟨p1, p2⟩ := p
        have qe : c = p1 := qe
        subst qe
        simp only at a0 a1 a2 e4 q1' ⊢
        simp [P_lp__law_least_right_3, permL, e1, e2, a0, a1, a2, eqq, ein, e3, e4]
      · have qe' : ¬ ((c : Int) = (p.1 : Int)) := by omega
        simp [P_lp__law_least_right_3, permL, e1, e2, a0, a1, a2, eqq, ein, e3, q1', qe', e4]
/-! ### a column -/
def shiftD (s : Rat) : D := .tup [.int (2 * s.num + s.den), .int (2 * s.den)]
theorem shift_P {s : Rat} (h : Sz 40 s) : ∃ r, IsP 143 r (shiftD s) := by
  have h1 : s.num.natAbs < 2 ^ 40 := h.1
  have h2 : ((s.den : Nat) : Int).natAbs < 2 ^ 40 := h.2
  have h3 := s.den_pos
  refine ⟨_, _, _, rfl, by omega, (bd_of (n := 45) (by omega)).mono (by decide), (bd_of (n := 45) (by omega)).mono (by decide), rfl⟩
def lookL (cuts : List Rat) : List D := cuts.map dR ++ cuts.map shiftD ++ [.tup [.int (-10000000), .int 1], .tup [.int 3, .int 7]]
theorem look_P {cuts : List Rat} (h : ∀ s ∈ cuts, Sz 40 s) : ∀ d ∈ lookL cuts, ∃ r, IsP 143 r d := fun d hd => by
  unfold lookL at hd
  rcases List.mem_append.mp hd with hd | hd
  · rcases List.mem_append.mp hd with hd | hd
    · obtain ⟨s, hs, rfl⟩ := List.mem_map.mp hd
      exact ⟨s, (isP_dR (h s hs)).mono (by decide)⟩
    · obtain ⟨s, hs, rfl⟩ := List.mem_map.mp hd
      exact shift_P (h s hs)
  · simp only [List.mem_cons, List.not_mem_nil, or_false] at hd
    rcases hd with rfl | rfl
    · exact ⟨_, _, _, rfl, by decide, (bd_of (n := 45) (by decide)).mono (by decide), (bd_of (n := 45) (by decide)).mono (by decide), rfl⟩
    · exact ⟨_, _, _, rfl, by decide, (bd_of (n := 45) (by decide)).mono (by decide), (bd_of (n := 45) (by decide)).mono (by decide), rfl⟩
/-- the looks at a column pass -/
theorem look_col {n m : Nat} {ls cu ts : FM} (hcu : RiseF 40 cu) (hm : m ≤ 15) {rows : List Row} {c : Nat} {g : Gh} (ho : RowsOk 40 n m rows) (hc : c < n) {dt dl : D} {s0 : Sl}
    (hin : ∀ (dc : D) (r : Rat) (s7 s8 s9 s10 : Sl), IsP 143 r dc → ∃ e7, P_lp__law_least_right_3 ls ts [s0, .val (dRows rows), .val dt, .val dl, .val (.int c), .val (.lst ((riseR (colR c rows)).map dR)), .val dc, s7, s8, s9, s10] g = .nx [s0, .val (dRows rows), .val dt, .val dl, .val (.int c), .val (.lst ((riseR (colR c rows)).map dR)), .val dc, .val e7, s8, s9, s10] g) {s5 s6 s7 s8 s9 s10 : Sl} :
    ∃ t5 t6 t7, P_lp__law_least_right_4 ls cu ts [s0, .val (dRows rows), .val dt, .val dl, .val (.int c), s5, s6, s7, s8, s9, s10] g = .nx [s0, .val (dRows rows), .val dt, .val dl, .val (.int c), t5, t6, t7, s8, s9, s10] g := by
  have lm : m ≤ LIM := Nat.le_trans hm (by decide)
  have hl : rows.length ≤ LIM := Nat.le_trans ho.1 lm
  have eC := hcu (colR c rows) g (by unfold colR; rw [List.length_map]; exact Nat.le_trans ho.1 (Nat.le_trans hm (by decide))) (col_ok ho hc)
  have csz : ∀ s ∈ riseR (colR c rows), Sz 40 s := fun s hs => col_ok ho hc _ (rise_mem.mp hs) s rfl
  have clen : (riseR (colR c rows)).length ≤ 15 := by
    have := rise_len' (colR c rows)
    simp only [colR, List.length_map] at this
    exact Nat.le_trans this (Nat.le_trans ho.1 hm)
  have cm : ∀ (x0 x1 x2 x3 x5 x6 x7 x8 x9 x10 : Sl), compL none (gTp 2 (gsCons (gNm 8) (gsCons (gNm 9) (gsNil)))) tTrue P_ce__law_least_right_1 (rows.map dRow) [x0, x1, x2, x3, .val (.int c), x5, x6, x7, x8, x9, x10] g = .ok ((colR c rows).map dN) g := fun x0 x1 x2 x3 x5 x6 x7 x8 x9 x10 => by
    have := compL_mapT (tg := gTp 2 (gsCons (gNm 8) (gsCons (gNm 9) (gsNil)))) (t := tTrue) (el := P_ce__law_least_right_1) (env := [x0, x1, x2, x3, .val (.int c), x5, x6, x7, x8, x9, x10]) (g := g) dRow (fun _ => true) (fun r => dN (r.1[c]?.getD none)) rows (fun r hr => by
      obtain ⟨⟨hn, hx⟩, _⟩ := ho.2 r hr
      have hc' : c < r.1.length := by omega
      have at1 : atI (r.1.map dN) (c : Int) = some (dN r.1[c]) := by
        have := atI_nat (l := r.1.map dN) (i := c) (by simpa using hc')
        simpa using this
      have gg : r.1[c]?.getD none = r.1[c] := by rw [List.getElem?_eq_getElem hc']; rfl
      refine ⟨[x0, x1, x2, x3, .val (.int c), x5, x6, x7, .val (dNs r.1), .val (.int r.2), x10], by simp [dRow], rfl, fun _ => ?_⟩
      rw [gg]
      simp [P_ce__law_least_right_1, dNs, at1])
    have hf : rows.filter (fun _ => true) = rows := by simp
    rw [hf] at this
    have em : (rows.map fun r => dN (r.1[c]?.getD none)) = (colR c rows).map dN := by unfold colR; rw [List.map_map]; rfl
    rw [em] at this
    exact this
  have it : itemsD (dRows rows) g = .ok (rows.map dRow, none) g := rfl
  have lC : eNew (lComp (iV (eLv 1)) (gTp 2 (gsCons (gNm 8) (gsCons (gNm 9) (gsNil)))) (tTrue) (P_ce__law_least_right_1) [8, 9]) [s0, .val (dRows rows), .val dt, .val dl, .val (.int c), s5, s6, s7, s8, s9, s10] g = .ok (.lst ((colR c rows).map dN)) g := by
    have hl2 : (colR c rows).length ≤ LIM := by simpa [colR] using hl
    simp [it, cm, blkE, wipeE, hideS, hl2]
  have sC : ∀ (x5 : D), eNew (lComp (iV (eLv 5)) (gNm 10) (tTrue) (P_ce__law_least_right_2) [10]) [s0, .val (dRows rows), .val dt, .val dl, .val (.int c), .val (.lst ((riseR (colR c rows)).map dR)), s6, s7, s8, s9, s10] g = .ok (.lst ((riseR (colR c rows)).map shiftD)) g := fun _ => by
    have cm2 : ∀ (x0 x1 x2 x3 x4 x5 x6 x7 x8 x9 x10 : Sl), compL none (gNm 10) tTrue P_ce__law_least_right_2 ((riseR (colR c rows)).map dR) [x0, x1, x2, x3, x4, x5, x6, x7, x8, x9, x10] g = .ok ((riseR (colR c rows)).map shiftD) g := fun x0 x1 x2 x3 x4 x5 x6 x7 x8 x9 x10 => by
      have := compL_mapT (tg := gNm 10) (t := tTrue) (el := P_ce__law_least_right_2) (env := [x0, x1, x2, x3, x4, x5, x6, x7, x8, x9, x10]) (g := g) dR (fun _ => true) shiftD (riseR (colR c rows)) (fun s hs => by
        have b0 : atI [D.int s.num, .int s.den] 0 = some (.int s.num) := rfl
        have b1 : atI [D.int s.num, .int s.den] 1 = some (.int s.den) := rfl
        have m1 : mulOk 2 s.num = true := mulOk_left (by decide)
        have m2 : mulOk 2 (s.den : Int) = true := mulOk_left (by decide)
        have lim2 : (2 : Nat) ≤ LIM := by decide
        refine ⟨[x0, x1, x2, x3, x4, x5, x6, x7, x8, x9, .val (dR s)], by simp, rfl, fun _ => ?_⟩
        simp [P_ce__law_least_right_2, dR, b0, b1, m1, m2, lim2, shiftD])
      have hf : (riseR (colR c rows)).filter (fun _ => true) = riseR (colR c rows) := by simp
      rw [hf] at this
      exact this
    have hl2 : (riseR (colR c rows)).length ≤ LIM := Nat.le_trans clen (by decide)
    simp [cm2, blkE, wipeE, hideS, hl2]
  have sC := sC .non
  obtain ⟨env', g', e, rfl, t6, t7, rfl⟩ := forL_inv (tg := gNm 6) (b := P_lp__law_least_right_3 ls ts) (fun env g' => g' = g ∧ ∃ t6 t7, env = [s0, .val (dRows rows), .val dt, .val dl, .val (.int c), .val (.lst ((riseR (colR c rows)).map dR)), t6, t7, s8, s9, s10]) (lookL (riseR (colR c rows))) (by
    rintro dd hdd env g' ⟨rfl, t6, t7, rfl⟩
    obtain ⟨r, hr⟩ := look_P csz dd hdd
    obtain ⟨e7, e⟩ := hin dd r t7 s8 s9 s10 hr
    exact ⟨_, rfl, _, _, e, rfl, _, _, rfl⟩) [s0, .val (dRows rows), .val dt, .val dl, .val (.int c), .val (.lst ((riseR (colR c rows)).map dR)), s6, s7, s8, s9, s10] g ⟨rfl, _, _, rfl⟩
  refine ⟨.val (.lst ((riseR (colR c rows)).map dR)), t6, t7, ?_⟩
  have p7 : powOk 10 7 = true := powOk_bd (by decide) (by decide) (by decide)
  have lim2 : (2 : Nat) ≤ LIM := by decide
  have hL : (LIM : Nat) = 100000 := rfl
  have q1 : (riseR (colR c rows)).length + (riseR (colR c rows)).length ≤ LIM := by omega
  have q2 : (riseR (colR c rows)).length + (riseR (colR c rows)).length + 2 ≤ LIM := by omega
  unfold P_lp__law_least_right_4
  generalize eNew (lComp (iV (eLv 1)) (gTp 2 (gsCons (gNm 8) (gsCons (gNm 9) (gsNil)))) (tTrue) (P_ce__law_least_right_1) [8, 9]) = LC at *
  generalize eNew (lComp (iV (eLv 5)) (gNm 10) (tTrue) (P_ce__law_least_right_2) [10]) = SC at *
  unfold lookL at e
  rw [List.append_assoc] at e
  simp [permL, lC, eC, sC, q1, q2, p7, lim2, e]
end GL
/-! GL part 42: the best test, whole. -/
namespace GL
open PySem L2
theorem lright_spec {n m : Nat} {ls sp cu lb ts : FM} (hls : PLessF 143 ls) (hsp : PSpreadF sp) (hcu : RiseF 40 cu) (hlb : LabF lb) (hts : TSpF 40 m ts) (hm : m ≤ 15) (hn : n ≤ 100) {rows : List Row} {g : Gh} (ho : RowsOk 40 n m rows) (hne : rows ≠ []) {d0 : D} :
    mFun 3 11 (P_b__law_least_right ls sp cu lb ts) [d0, dRows rows, dT (treeR n 1 rows)] g = .ok (.bl true) g := by
  have lm : m ≤ LIM := Nat.le_trans hm (by decide)
  have e1 := hlb rows g (Nat.le_trans ho.1 lm)
  change lb [dRows rows] g = .ok (.lst ((lblR rows).map D.int)) g at e1
  obtain ⟨d1, h1, e2⟩ := hsp _ g (ho.ls (Nat.le_trans hm (by decide)))
  obtain ⟨r0, a1, a2, a3⟩ := lot00 ho hne g
  have rn : rngOk (n : Int) = true := rng_nat (by omega)
  have loop : ∀ (dt dl : D), (∀ (c : Nat), c < n → ∀ (dc : D) (r : Rat) (s7 s8 s9 s10 : Sl), IsP 143 r dc → ∃ e7, P_lp__law_least_right_3 ls ts [.val d0, .val (dRows rows), .val dt, .val dl, .val (.int c), .val (.lst ((riseR (colR c rows)).map dR)), .val dc, s7, s8, s9, s10] g = .nx [.val d0, .val (dRows rows), .val dt, .val dl, .val (.int c), .val (.lst ((riseR (colR c rows)).map dR)), .val dc, .val e7, s8, s9, s10] g) →
      ∃ t4 t5 t6 t7 t8 t9 t10, forL none (gNm 4) (P_lp__law_least_right_4 ls cu ts) (rangeD 0 n) [.val d0, .val (dRows rows), .val dt, .val dl, .un, .un, .un, .un, .un, .un, .un] g = .nx [.val d0, .val (dRows rows), .val dt, .val dl, t4, t5, t6, t7, t8, t9, t10] g := fun dt dl hin => by
    obtain ⟨env', g', e, rfl, t4, t5, t6, t7, t8, t9, t10, rfl⟩ := forL_inv (tg := gNm 4) (b := P_lp__law_least_right_4 ls cu ts) (fun env g' => g' = g ∧ ∃ t4 t5 t6 t7 t8 t9 t10, env = [.val d0, .val (dRows rows), .val dt, .val dl, t4, t5, t6, t7, t8, t9, t10]) (rangeD 0 n) (by
      rintro dd hdd env g' ⟨rfl, t4, t5, t6, t7, t8, t9, t10, rfl⟩
      obtain ⟨c, hc, rfl⟩ := rangeD_mem hdd
      obtain ⟨u5, u6, u7, e⟩ := look_col (ls := ls) (ts := ts) hcu hm ho hc (dt := dt) (dl := dl) (s0 := .val d0) (hin c hc) (s5 := t5) (s6 := t6) (s7 := t7) (s8 := t8) (s9 := t9) (s10 := t10)
      exact ⟨_, rfl, _, _, by simpa using e, rfl, _, _, _, _, _, _, _, rfl⟩) [.val d0, .val (dRows rows), .val dt, .val dl, .un, .un, .un, .un, .un, .un, .un] g ⟨rfl, _, _, _, _, _, _, _, rfl⟩
    exact ⟨_, _, _, _, _, _, _, e⟩
  cases hb : bestR n rows with
  | none =>
    have et : treeR n 1 rows = .leaf (meanR (lblR rows)) := by simp [treeR, hb]
    rw [et]
    have hl : IsP 143 (bestV n rows) d1 := by rw [bestV_none hb]; exact h1.mono (by decide)
    obtain ⟨t4, t5, t6, t7, t8, t9, t10, e⟩ := loop (dT (.leaf (meanR (lblR rows)))) d1 (fun c hc dc r s7 s8 s9 s10 hp => look_leaf hls hts ho hc hl hp)
    have b0 : atI [D.str "leaf", dR (meanR (lblR rows))] 0 = some (.str "leaf") := rfl
    have neq : cmpop .Eq (.str "leaf") (.str "test") g = .ok (.bl false) g := eqS_no (by decide +kernel)
    have eqq : cmpop .Eq (.str "leaf") (.str "leaf") g = .ok (.bl true) g := eq_same (by decide +kernel)
    rw [show dT (.leaf (meanR (lblR rows))) = .tup [.str "leaf", dR (meanR (lblR rows))] from rfl] at e ⊢
    simp [mFun, P_b__law_least_right, permL, e1, e2, b0, neq, a1, a2, a3, rn, e, eqq, endR]
  | some p =>
    have et : treeR n 1 rows = .test p.1 p.2 (treeR n 0 (yesR p.1 p.2 rows)) (treeR n 0 (noR p.1 p.2 rows)) := by simp [treeR, hb]
    rw [et]
    generalize treeR n 0 (yesR p.1 p.2 rows) = y
    generalize treeR n 0 (noR p.1 p.2 rows) = z
    have bs := best_some ho hb
    have hps : Sz 40 p.2 := bs.2.1
    obtain ⟨dl, hl, e3⟩ := hts rows n p.1 p.2 (dR p.2) g ho bs.1 ((isP_dR hps).mono (by decide))
    have hl : IsP 143 (bestV n rows) dl := by rw [bestV_some hb]; exact hl
    obtain ⟨t4, t5, t6, t7, t8, t9, t10, e⟩ := loop (dT (.test p.1 p.2 y z)) dl (fun c hc dc r s7 s8 s9 s10 hp => look_test hls hts (by decide) ho hc hb hl hp)
    have b0 : atI [D.str "test", .int p.1, dR p.2, dT y, dT z] 0 = some (.str "test") := rfl
    have b1 : atI [D.str "test", .int p.1, dR p.2, dT y, dT z] 1 = some (.int p.1) := rfl
    have b2 : atI [D.str "test", .int p.1, dR p.2, dT y, dT z] 2 = some (dR p.2) := rfl
    have eqq : cmpop .Eq (.str "test") (.str "test") g = .ok (.bl true) g := eq_same (by decide +kernel)
    have neq : cmpop .Eq (.str "test") (.str "leaf") g = .ok (.bl false) g := eqS_no str_test_leaf
    have e5 := hls _ _ _ _ g hl (h1.mono (by decide : 71 ≤ 143))
    rw [decide_eq_true (best_less hb)] at e5
    rw [show dT (.test p.1 p.2 y z) = .tup [.str "test", .int p.1, dR p.2, dT y, dT z] from rfl] at e ⊢
    simp [mFun, P_b__law_least_right, permL, e1, e2, e3, b0, b1, b2, eqq, neq, a1, a2, a3, rn, e, e5, endR]
/-! ### the law's check -/
theorem mean_rat {ls : List Int} {g : Gh} {rt : FM} (hr : RatF rt) (h : LsOk ls) (h0 : ls ≠ []) : rt [.int ls.sum, .int ls.length] g = .ok (dR (meanR ls)) g := by
  have : ls.length ≠ 0 := fun e => h0 (List.length_eq_zero_iff.mp e)
  exact hr _ _ g (by omega) (h.len.mono (by decide))
theorem lgood38 {n m : Nat} {tr ig rt sd lb lr : FM} (htr : TreeF 40 m 1 tr) (hig : ∀ (rows : List Row) (g : Gh), RowsOk 40 n m rows → rows ≠ [] → ig [dT (treeR n 1 rows), dRows rows] g = .ok (.bl true) g) (hr : RatF rt) (hsd : PPartF 40 m sd) (hlb : LabF lb)
    (hlr : ∀ (rows : List Row) (d0 : D) (g : Gh), RowsOk 40 n m rows → rows ≠ [] → lr [d0, dRows rows, dT (treeR n 1 rows)] g = .ok (.bl true) g) (hm : m ≤ 15) (hn : n ≤ 100) {rows : List Row} {g : Gh} (ho : RowsOk 40 n m rows) (hne : rows ≠ []) {d0 : D} :
    mFun 2 6 (P_b__law_good38 tr ig rt sd lb lr) [d0, dRows rows] g = .ok (.bl true) g := by
  have lm : m ≤ LIM := Nat.le_trans hm (by decide)
  have e1 : tr [dRows rows, .int 1] g = .ok (dT (treeR n 1 rows)) g := htr rows n g ho hne hn
  have e2 := hlr rows d0 g ho hne
  have e3 := hig rows g ho hne
  have hlab : ∀ (rows : List Row), RowsOk 40 n m rows → lb [dRows rows] g = .ok (.lst ((lblR rows).map D.int)) g := fun rows ho => hlb rows g (Nat.le_trans ho.1 lm)
  have lim2 : (2 : Nat) ≤ LIM := by decide
  cases hb : bestR n rows with
  | none =>
    have et : treeR n 1 rows = .leaf (meanR (lblR rows)) := by simp [treeR, hb]
    rw [et] at e1 e2 e3
    have lo := ho.ls (Nat.le_trans hm (by decide))
    have hn0 : lblR rows ≠ [] := fun e => hne (List.map_eq_nil_iff.mp e)
    have e4 := hlab rows ho
    have e5 := mean_rat (g := g) hr lo hn0
    have es : oSum [.lst ((lblR rows).map D.int)] g = .ok (.int (lblR rows).sum) g := by simp
    have el : oLen [dRows rows] g = .ok (.int (lblR rows).length) g := by simp [dRows, lblR]
    have b0 : atI [D.str "leaf", dR (meanR (lblR rows))] 0 = some (.str "leaf") := rfl
    have eqq : cmpop .Eq (.str "leaf") (.str "leaf") g = .ok (.bl true) g := eq_same (by decide +kernel)
    have eqt : cmpop .Eq (.tup [.str "leaf", dR (meanR (lblR rows))]) (.tup [.str "leaf", dR (meanR (lblR rows))]) g = .ok (.bl true) g := eq_same (by simp only [okD, okDs, dR, sOk_leaf, Bool.and_self])
    rw [show dT (.leaf (meanR (lblR rows))) = .tup [.str "leaf", dR (meanR (lblR rows))] from rfl] at e1 e2 e3
    simp [mFun, P_b__law_good38, permL, e1, e2, e3, isopB, b0, eqq, e4, es, el, e5, lim2, eqt, endR]
  | some p =>
    have bs := best_some ho hb
    have oy : RowsOk 40 n m (yesR p.1 p.2 rows) := ho.filter _
    have on : RowsOk 40 n m (noR p.1 p.2 rows) := ho.filter _
    have et : treeR n 1 rows = .test p.1 p.2 (.leaf (meanR (lblR (yesR p.1 p.2 rows)))) (.leaf (meanR (lblR (noR p.1 p.2 rows)))) := by simp [treeR, hb]
    rw [et] at e1 e2 e3
    have e4 := hsd rows n p.1 p.2 (dR p.2) g ho bs.1 ((isP_dR bs.2.1).mono (by decide))
    change sd [dRows rows, .int p.1, dR p.2] g = .ok (.tup [dRows (yesR p.1 p.2 rows), dRows (noR p.1 p.2 rows)]) g at e4
    have ly := hlab _ oy
    have ln := hlab _ on
    have ny : lblR (yesR p.1 p.2 rows) ≠ [] := fun e => bs.2.2.1 (List.map_eq_nil_iff.mp e)
    have nn : lblR (noR p.1 p.2 rows) ≠ [] := fun e => bs.2.2.2 (List.map_eq_nil_iff.mp e)
    have m1 := mean_rat (g := g) hr (oy.ls (Nat.le_trans hm (by decide))) ny
    have m2 := mean_rat (g := g) hr (on.ls (Nat.le_trans hm (by decide))) nn
    generalize hY : lblR (yesR p.1 p.2 rows) = Y at *
    generalize hN : lblR (noR p.1 p.2 rows) = N at *
    have c1 : ∀ (x0 x1 x2 x3 x4 x5 : Sl), compL none (gNm 4) tTrue (P_ce__law_good38_1 lb) [dRows (yesR p.1 p.2 rows), dRows (noR p.1 p.2 rows)] [x0, x1, x2, x3, x4, x5] g = .ok [.lst (Y.map D.int), .lst (N.map D.int)] g := fun x0 x1 x2 x3 x4 x5 => by
      refine compL_mapT (tg := gNm 4) (t := tTrue) (el := P_ce__law_good38_1 lb) (env := [x0, x1, x2, x3, x4, x5]) (g := g) (fun q : List Row × List Int => dRows q.1) (fun _ => true) (fun q => D.lst (q.2.map D.int)) [(yesR p.1 p.2 rows, Y), (noR p.1 p.2 rows, N)] (fun q hq => ?_)
      have eq : lb [dRows q.1] g = .ok (.lst (q.2.map D.int)) g := by
        simp only [List.mem_cons, List.not_mem_nil, or_false] at hq
        rcases hq with rfl | rfl
        · exact ly
        · exact ln
      exact ⟨[x0, x1, x2, x3, .val (dRows q.1), x5], by simp, rfl, fun _ => by simp [P_ce__law_good38_1, permL, eq]⟩
    have c2 : ∀ (x0 x1 x2 x3 x4 x5 : Sl), compL none (gNm 5) tTrue (P_ce__law_good38_2 rt) [.lst (Y.map D.int), .lst (N.map D.int)] [x0, x1, x2, x3, x4, x5] g = .ok [.tup [.str "leaf", dR (meanR Y)], .tup [.str "leaf", dR (meanR N)]] g := fun x0 x1 x2 x3 x4 x5 => by
      refine compL_mapT (tg := gNm 5) (t := tTrue) (el := P_ce__law_good38_2 rt) (env := [x0, x1, x2, x3, x4, x5]) (g := g) (fun q : List Int => D.lst (q.map D.int)) (fun _ => true) (fun q => D.tup [.str "leaf", dR (meanR q)]) [Y, N] (fun q hq => ?_)
      have eq : rt [.int q.sum, .int q.length] g = .ok (dR (meanR q)) g := by
        simp only [List.mem_cons, List.not_mem_nil, or_false] at hq
        rcases hq with rfl | rfl
        · exact m1
        · exact m2
      exact ⟨[x0, x1, x2, x3, x4, .val (.lst (q.map D.int))], by simp, rfl, fun _ => by simp [P_ce__law_good38_2, permL, eq, lim2]⟩
    have ok2 : okD (.lst [.lst (Y.map D.int), .lst (N.map D.int)]) 64 = true := by
      simp only [okD, okDs, okDs_ints, Bool.and_self]
    have ein := in_ap (g := g) (d := .lst []) (xs := [.lst (Y.map D.int), .lst (N.map D.int)]) rfl ok2
    have em : memD (.lst []) [.lst (Y.map D.int), .lst (N.map D.int)] = false := by
      obtain ⟨y, ys, rfl⟩ := List.exists_cons_of_ne_nil ny
      obtain ⟨z, zs, rfl⟩ := List.exists_cons_of_ne_nil nn
      rfl
    rw [em] at ein
    have b0 : atI [D.str "test", .int p.1, dR p.2, .tup [.str "leaf", dR (meanR Y)], .tup [.str "leaf", dR (meanR N)]] 0 = some (.str "test") := rfl
    have b1 : atI [D.str "test", .int p.1, dR p.2, .tup [.str "leaf", dR (meanR Y)], .tup [.str "leaf", dR (meanR N)]] 1 = some (.int p.1) := rfl
    have b2 : atI [D.str "test", .int p.1, dR p.2, .tup [.str "leaf", dR (meanR Y)], .tup [.str "leaf", dR (meanR N)]] 2 = some (dR p.2) := rfl
    have k5 : cutD [D.str "test", .int p.1, dR p.2, .tup [.str "leaf", dR (meanR Y)], .tup [.str "leaf", dR (meanR N)]] (some 3) none = [.tup [.str "leaf", dR (meanR Y)], .tup [.str "leaf", dR (meanR N)]] := rfl
    have neq : cmpop .Eq (.str "test") (.str "leaf") g = .ok (.bl false) g := eqS_no str_test_leaf
    have nne : cmpop .NotEq (.str "test") (.str "test") g = .ok (.bl false) g := by
      rw [ne_ap]
      simp [okE, strD, eqD, guardR]
    have eqt : cmpop .Eq (.lst [.tup [.str "leaf", dR (meanR Y)], .tup [.str "leaf", dR (meanR N)]]) (.lst [.tup [.str "leaf", dR (meanR Y)], .tup [.str "leaf", dR (meanR N)]]) g = .ok (.bl true) g := eq_same (by simp only [okD, okDs, dR, sOk_leaf, Bool.and_self])
    rw [show dT (.test p.1 p.2 (.leaf (meanR Y)) (.leaf (meanR N))) = .tup [.str "test", .int p.1, dR p.2, .tup [.str "leaf", dR (meanR Y)], .tup [.str "leaf", dR (meanR N)]] from rfl] at e1 e2 e3
    simp [mFun, P_b__law_good38, permL, e1, e2, e3, isopB, b0, b1, b2, neq, nne, e4, c1, c2, blkE, wipeE, hideS, lim2, ein, k5, oListF, seqD, eqt, endR]
end GL
namespace LW
open PySem L2 GL
section
variable {k : Nat}
theorem f1 : WholeF (tab (k + 1) 1) := whole_spec
theorem f2 : WithinF (tab (k + 2) 2) := within_spec (f1 (k := k))
theorem f3 : CpF 44 (tab (k + 1) 3) := fun a b g ha hb => common_part_spec (by decide) (by decide) ha hb
theorem f4 {K : Nat} (k0 : 0 < K) (k8 : K ≤ 8000) : LowF K (tab (k + 2) 4) := lowF_of k0 k8 fun a b g ha hb => common_part_spec k0 k8 ha hb
theorem f5 : RatioF 44 (tab (k + 2) 5) := ratio_spec (f1 (k := k)) (f3 (k := k))
theorem f6 {K : Nat} (k0 : 0 < K) (k8 : K ≤ 8000) : HeldF K (tab (k + 1) 6) := held_spec k0 k8
theorem works : Works 2000 (tab (k + 4)) okV2 t_WORKS 7 8 9 10 where
  tp := tv_WORKS_plus
  tm := tv_WORKS_minus
  tt := tv_WORKS_times
  to := tv_WORKS_over
  kp := rfl
  km := rfl
  kt := rfl
  ko := rfl
  fp := ⟨_, f4 (k := k + 1) (by decide) (by decide), rfl⟩
  fm := ⟨_, f4 (k := k) (by decide) (by decide), rfl⟩
  ft := ⟨_, f4 (k := k + 1) (by decide) (by decide), rfl⟩
  fo := ⟨_, f4 (k := k + 1) (by decide) (by decide), rfl⟩
theorem f11 : PlusF 71 (tab (k + 5) 11) := fun r s g hr hs => by
  have := worked_spec (g := g) (works (k := k)) (k := 71) (by decide) (by decide) (by decide) (w := "plus") (by simp [WORDS]) (szN_some hr) (szN_some hs)
  rw [wk_plus] at this
  exact this
theorem f12 : SpreadF (tab (k + 3) 12) := spread_spec (f4 (K := 71) (k := k) (by decide) (by decide)) (Nat.le_refl _)
theorem f13 : LabF (tab (k + 1) 13) := lab_spec
theorem f14 : LeafF 14 (tab (k + 3) 14) := leaf_spec (f4 (K := 30) (k := k) (by decide) (by decide)) (f13 (k := k + 1)) (Nat.le_refl _) (by decide)
theorem f15 : YesF 40 (tab (k + 2) 15) := yes_spec (f6 (k := k) (by decide) (by decide))
theorem f16 : PartF 40 14 (tab (k + 3) 16) := part_spec (f15 (k := k)) (by decide)
theorem f17 : RiseF 40 (tab (k + 2) 17) := rise_spec (f6 (k := k) (by decide) (by decide))
theorem f18 : TestsF 40 14 (tab (k + 6) 18) := tests_spec (f11 (k := k)) (f12 (k := k + 2)) (f13 (k := k + 4)) (f16 (k := k + 2)) (f17 (k := k + 3)) (by decide)
theorem f19 : BestF 40 14 (tab (k + 7) 19) := best_spec (f6 (k := k + 5) (by decide) (by decide)) (f12 (k := k + 3)) (f13 (k := k + 5)) (f18 (k := k)) (by decide)
theorem f20 : ∀ (d k : Nat), TreeF 40 14 d (tab (k + d + 8) 20)
  | 0, k => tree_0 (f14 (k := k + 4))
  | d + 1, k => by
    have h := tree_s (f14 (k := k + d + 5)) (f16 (k := k + d + 5)) (f19 (k := k + d + 1)) (f20 d k)
    exact h
theorem f21 : ∀ (fl k : Nat), TreeOnF 44 fl (tab (k + fl + 3) 21)
  | 0, k => tree_on_spec (f2 (k := k)) (f5 (k := k)) (fun fl' h => by omega)
  | fl + 1, k => tree_on_spec (f2 (k := k + fl + 1)) (f5 (k := k + fl + 1)) (fun fl' h => by cases h; exact f21 fl k)
theorem f22 : IsTreeF (tab (k + 12) 22) := fun d cols g h => by
  have e : tab (k + 11) 21 [d, .int cols, .int 8] g = .ok (.bl (treeD cols 8 d)) g := f21 8 k d cols g h
  show mFun 2 2 (b_is_tree (tab (k + 11))) _ g = _
  simp [mFun, b_is_tree, permL, v_MOST_FLOORS, e, endR]
theorem f23 : ∀ (d k : Nat), SpInF 40 14 d (tab (k + d + 6) 23)
  | 0, k => spin_spec (f11 (k := k)) (f12 (k := k + 2)) (f13 (k := k + 4)) (f16 (k := k + 2)) (by decide) (fun d' h => by omega)
  | d + 1, k => spin_spec (f11 (k := k + d + 1)) (f12 (k := k + d + 3)) (f13 (k := k + d + 5)) (f16 (k := k + d + 3)) (by decide) (fun d' h => by cases h; exact f23 d k)
theorem f25 {ns : List Int} {j : Nat} {g : Gh} (hj : j ≤ 1000000) : ∃ n g', HasBag n g' ∧ tab (k + 1) 25 [.arr ns, .int j] g = .ok (.loc n) g' := by
  obtain ⟨o, ho, e⟩ := bag_spec (ns := ns) (g := g) hj
  exact ⟨g.length, g ++ [o], ⟨o, by simp, ho⟩, e⟩
theorem f26 : TakeF (tab (k + 1) 26) := takeF
theorem f27 : RatF (tab (k + 1) 27) := rat_spec
theorem f27' : RatFW (tab (k + 1) 27) := rat_specW
theorem f28 : LessF 40 (tab (k + 1) 28) := less_spec (by decide) (by decide)
theorem f28' : PLessF 143 (tab (k + 1) 28) := pless_spec (by decide) (by decide)
theorem f29 : NumF (tab (k + 2) 29) := num_spec (f26 (k := k)) (f27 (k := k))
theorem f30 : RwsF (tab (k + 3) 30) := rws_spec (f26 (k := k + 1)) (f28 (k := k + 1)) (f29 (k := k))
theorem f31 : PSpreadF (tab (k + 1) 31) := pspread_spec
theorem f32 : PBothF 71 (tab (k + 1) 32) := pboth_spec (by decide) (by decide)
theorem f33 : RiseF 40 (tab (k + 2) 33) := cuts_spec (f28 (k := k))
theorem f34 : PPartF 40 14 (tab (k + 2) 34) := psides_spec (by decide) (f28' (k := k)) (by decide)
theorem f35 : LabF (tab (k + 1) 35) := plab_spec
end
section
variable {k : Nat}
theorem wt44_T : ∀ t : Tr, wtD 44 (dT t) ≤ 343 * szT t + 146
  | .leaf r => by
    simp only [dT, dR, wtD, wtDs, szT]
    have : (Str.length "leaf") = 4 := by decide +kernel
    omega
  | .test c cut y z => by
    have h1 := wt44_T y
    have h2 := wt44_T z
    simp only [dT, dR, wtD, wtDs, szT]
    have : (Str.length "test") = 4 := by decide +kernel
    omega
theorem any_T {n d : Nat} {t : Tr} (hn : n ≤ 1000) (hd : d ≤ 6) (h : TrOk 40 n d t) : AnyD 44 (dT t) := by
  have h1 := sz_le d t h
  have h2 : 2 ^ d ≤ 2 ^ 6 := Nat.pow_le_pow_right (by decide) hd
  have h3 := wt44_T t
  have hL : (LIM : Nat) = 100000 := rfl
  exact ⟨okD_up _ _ 64 (by omega) (ok_T d t 0 h), bdD_up _ 40 44 (by decide) (bd_T hn d t h), by omega⟩

theorem f36 (rows : List Row) (n : Nat) (g : Gh) (ho : RowsOk 40 n 14 rows) : tab (k + 4) 36 [dRows rows] g = .ok (dR (spreadR (lblR rows))) g :=
  spof_spec (f12 (k := k)) (f35 (k := k + 2)) (by decide) ho
theorem f37 : TSpF 40 14 (tab (k + 5) 37) := tsp_spec (f32 (k := k + 3)) (f34 (k := k + 2)) (by decide) (fun rows n g ho => f36 (k := k) rows n g ho)
theorem f38 {n : Nat} (hn : n ≤ 100) (rows : List Row) (d0 : D) (g : Gh) (ho : RowsOk 40 n 14 rows) (hne : rows ≠ []) : tab (k + 6) 38 [d0, dRows rows, dT (treeR n 1 rows)] g = .ok (.bl true) g :=
  lright_spec (f28' (k := k + 4)) (f31 (k := k + 4)) (f33 (k := k + 3)) (f35 (k := k + 4)) (f37 (k := k)) (by decide) hn ho hne
theorem f24 {n : Nat} (hn : n ≤ 100) (rows : List Row) (g : Gh) (ho : RowsOk 40 n 14 rows) (hne : rows ≠ []) : tab (k + 13) 24 [dT (treeR n 1 rows), dRows rows] g = .ok (.bl true) g := by
  have ht := tree_ok (k := 40) (n := n) (m := 14) (by decide) (by decide) 1 rows ho hne
  have := is_good_spec (g := g) (f6 (k := k + 11) (by decide) (by decide)) (f12 (k := k + 9)) (f13 (k := k + 11)) (f18 (k := k + 6)) (f22 (k := k)) (f23 1 (k + 5)) (by decide) (by decide) hn ho hne ht (any_T (by omega) (by decide) ht)
  rw [decide_eq_true (learnt_good (n := n) (d := 0) (rows := rows))] at this
  exact this
theorem f39 {n : Nat} (hn : n ≤ 100) {rows : List Row} {g : Gh} (ho : RowsOk 40 n 14 rows) (hne : rows ≠ []) {d0 : D} : tab (k + 14) 39 [d0, dRows rows] g = .ok (.bl true) g :=
  lgood38 (f20 1 (k + 4)) (f24 (k := k) hn) (f27 (k := k + 12)) (f34 (k := k + 11)) (f35 (k := k + 12)) (fun rows d0 g ho hne => f38 (k := k + 7) hn rows d0 g ho hne) (by decide) hn ho hne
theorem rpr_dR {r : Rat} (h : Sz 71 r) : rprOk (dR r) = true := by
  have b : bdD 71 (dR r) = true := by
    simp only [dR, bdD, bdDs, Bool.and_true, Bool.and_eq_true, decide_eq_true_eq]
    exact ⟨h.1, h.2⟩
  exact rpr_ok 71 200 (by decide) (by decide) rfl b (by simp only [dR, wtD, wtDs]; decide) (by decide)
theorem l1 {ns : List Int} {j : Int} {n : Nat} {g : Gh} {s3 s4 s5 s6 s7 : Sl} (hb : HasBag n g) :
    ∃ b4 b5 b6 b7 g', HasBag n g' ∧ lp_law_1 (tab (k + 14)) [.val (.arr ns), .val (.int j), .val (.loc n), s3, s4, s5, s6, s7] g = .nx [.val (.arr ns), .val (.int j), .val (.loc n), s3, b4, b5, b6, b7] g' := by
  obtain ⟨rows, cols, g1, hc, ho, hne, hb1, e1⟩ := f30 (k := k + 11) n 14 g hb (by decide) (by decide)
  have e1 : tab (k + 14) 30 [.loc n, .int 14] g = .ok (dRows rows) g1 := e1
  have e2 := f35 (k := k + 13) rows g1 (Nat.le_trans ho.1 (by decide))
  change tab (k + 14) 35 [dRows rows] g1 = .ok (.lst ((lblR rows).map D.int)) g1 at e2
  have lo := ho.ls (by decide)
  have e3 := f12 (k := k + 11) (lblR rows) g1 lo
  obtain ⟨d7, ⟨t, u, rfl, hu, bt, bu, hq⟩, e4⟩ := f31 (k := k + 13) (lblR rows) g1 lo
  have e5 := f27' (k := k + 13) t u g1 hu (bu.mono (by decide))
  rw [← hq] at e5
  have hS : Sz 71 (spreadR (lblR rows)) := (sIn_sz (by decide) (t := .leaf 0) ho).mono (by decide)
  have rp := oRepr_ok (g := g1) (rpr_dR hS)
  have ns1 : ∀ z : Str, cmpop .NotEq (.str z) (.str z) g1 = .ok (.bl false) g1 := fun z => by rw [ne_ap]; simp [okE, strD, eqD, guardR]
  have ns2 : ∀ r : Rat, cmpop .NotEq (dR r) (dR r) g1 = .ok (.bl false) g1 := fun r => by
    have o : okD (dR r) 64 = true := rfl
    rw [ne_ap, okD_deref o, okE_ok o o, eqD_rfl _ 64 o]; rfl
  have o1 : RowsOk 40 cols 14 (List.replicate 3 (rows.take 1)).flatten := by
    refine ⟨?_, fun r hr => ?_⟩
    · have : (rows.take 1).length ≤ 1 := by rw [List.length_take]; omega
      simp; omega
    · obtain ⟨l, hl, hr⟩ := List.mem_flatten.mp hr
      rw [(List.mem_replicate.mp hl).2] at hr
      exact ho.2 r (List.mem_of_mem_take hr)
  have o2 : RowsOk 40 cols 14 (rows.take 2) := ⟨by rw [List.length_take]; omega, fun r hr => ho.2 r (List.mem_of_mem_take hr)⟩
  obtain ⟨x0, xs, hx⟩ := List.exists_cons_of_ne_nil hne
  have n1 : (List.replicate 3 (rows.take 1)).flatten ≠ [] := by rw [hx]; simp
  have n2 : rows.take 2 ≠ [] := by rw [hx]; simp
  have g1' := f39 (k := k) (n := cols) (by omega) (g := g1) ho hne (d0 := .loc n)
  have g2' := f39 (k := k) (n := cols) (by omega) (g := g1) o1 n1 (d0 := .loc n)
  have g3' := f39 (k := k) (n := cols) (by omega) (g := g1) o2 n2 (d0 := .loc n)
  have k1 : cutop (dRows rows) none (some 1) g1 = .ok (dRows (rows.take 1)) g1 := by
    show R.ok (D.lst (cutD (rows.map dRow) none (some 1))) g1 = _
    have : cutD (rows.map dRow) none (some 1) = (rows.take 1).map dRow := by
      unfold cutD
      rw [HT.sIx_none, show (1 : Int) = ((1 : Nat) : Int) from rfl, HT.sIx_nat]
      simp only [List.drop_zero, Nat.sub_zero, List.length_map, List.map_take]
      rw [hx]; simp
    rw [this]; rfl
  have k2 : cutop (dRows rows) none (some 2) g1 = .ok (dRows (rows.take 2)) g1 := by
    show R.ok (D.lst (cutD (rows.map dRow) none (some 2))) g1 = _
    have : cutD (rows.map dRow) none (some 2) = (rows.take 2).map dRow := by
      unfold cutD
      rw [HT.sIx_none, show (2 : Int) = ((2 : Nat) : Int) from rfl, HT.sIx_nat]
      simp only [List.drop_zero, Nat.sub_zero, List.length_map, List.map_take]
      rw [List.take_eq_take_iff]
      simp only [List.length_map]
      omega
    rw [this]; rfl
  have k3 : binop .Mult (dRows (rows.take 1)) (.int 3) g1 = .ok (dRows (List.replicate 3 (rows.take 1)).flatten) g1 := by
    show guardR (decide ((0 : Int) ≤ 3) && decide ((3 : Int) ≤ 1000) && decide (((rows.take 1).map dRow).length * 3 ≤ LIM)) (.lst (List.replicate 3 ((rows.take 1).map dRow)).flatten) g1 = _
    have hl : ((rows.take 1).map dRow).length * 3 ≤ LIM := by
      have hL : (LIM : Nat) = 100000 := rfl
      rw [List.length_map, List.length_take]; omega
    rw [decide_eq_true hl]
    have : (List.replicate 3 ((rows.take 1).map dRow)).flatten = ((List.replicate 3 (rows.take 1)).flatten).map dRow := by
      rw [List.map_flatten, List.map_replicate]
    rw [this]; rfl
  have b0 : atI [D.int t, .int u] 0 = some (.int t) := rfl
  have b1 : atI [D.int t, .int u] 1 = some (.int u) := rfl
  refine ⟨.val (dRows rows), .val (.lst ((lblR rows).map D.int)), .val (dR (spreadR (lblR rows))), .val (.tup [.int t, .int u]), g1, hb1, ?_⟩
  have ol : oListF [.lst ((lblR rows).map D.int)] g1 = .ok ((lblR rows).map D.int) g1 := rfl
  generalize (lblR rows).map D.int = LM at *
  generalize (List.replicate 3 (rows.take 1)).flatten = R3 at *
  generalize rows.take 1 = R1 at *
  generalize rows.take 2 = R2 at *
  simp [lp_law_1, permL, e1, e2, e3, e4, b0, b1, e5, rp, ns1, ol, ns2, g1', k1, k3, g2', k2, g3']
theorem l2 {ns : List Int} {j : Nat} {g : Gh} {s2 s3 s4 s5 s6 s7 : Sl} (hj : j ≤ 1000000) :
    ∃ b2 b3 b4 b5 b6 b7 g', lp_law_2 (tab (k + 14)) [.val (.arr ns), .val (.int j), s2, s3, s4, s5, s6, s7] g = .nx [.val (.arr ns), .val (.int j), b2, b3, b4, b5, b6, b7] g' := by
  obtain ⟨n, g1, hb1, e1⟩ := f25 (k := k + 13) (g := g) (ns := ns) hj
  obtain ⟨env5, g5, e6, hb5, t3, t4, t5, t6, t7, rfl⟩ := forL_inv (tg := gNm 3) (b := lp_law_1 (tab (k + 14))) (fun env g' => HasBag n g' ∧ ∃ t3 t4 t5 t6 t7, env = [.val (.arr ns), .val (.int j), .val (.loc n), t3, t4, t5, t6, t7]) (rangeD 0 3) (by
    rintro dd _ env g' ⟨hb, t3, t4, t5, t6, t7, rfl⟩
    obtain ⟨b4, b5, b6, b7, g'', hb'', e⟩ := l1 (k := k) (ns := ns) (j := j) (n := n) (g := g') (s3 := .val dd) (s4 := t4) (s5 := t5) (s6 := t6) (s7 := t7) hb
    exact ⟨_, rfl, _, _, e, hb'', _, _, _, _, _, rfl⟩) [.val (.arr ns), .val (.int j), .val (.loc n), s3, s4, s5, s6, s7] g1 ⟨hb1, _, _, _, _, _, rfl⟩
  refine ⟨.val (.loc n), t3, t4, t5, t6, t7, g5, ?_⟩
  have r3 : rngOk 3 = true := rng_in (by decide) (by decide)
  simp [lp_law_2, permL, e1, r3, e6]
end
theorem law_at (k : Nat) (ns : List Int) (hn : ns.length ≤ 63) : ∃ G, tab (k + 15) 40 [.arr ns] [] = .ok (.bl true) G := by
  obtain ⟨env', g', e, x1, x2, x3, x4, x5, x6, x7, rfl⟩ := forL_inv (tg := gNm 1) (b := lp_law_2 (tab (k + 14))) (fun env g' => ∃ a1 a2 a3 a4 a5 a6 a7, env = [.val (.arr ns), a1, a2, a3, a4, a5, a6, a7]) (rangeD 0 (max 2 (min 4 ns.length))) (by
    intro d hd env g' ⟨a1, a2, a3, a4, a5, a6, a7, h⟩
    subst h
    obtain ⟨i, hi, rfl⟩ := rangeD_mem hd
    obtain ⟨b2, b3, b4, b5, b6, b7, g', e⟩ := l2 (k := k) (g := g') (ns := ns) (j := i) (s2 := a2) (s3 := a3) (s4 := a4) (s5 := a5) (s6 := a6) (s7 := a7) (by omega)
    refine ⟨_, rfl, [.val (.arr ns), .val (.int i), b2, b3, b4, b5, b6, b7], g', ?_, _, _, _, _, _, _, _, rfl⟩
    simpa using e) [.val (.arr ns), .un, .un, .un, .un, .un, .un, .un] [] ⟨_, _, _, _, _, _, _, rfl⟩
  refine ⟨g', ?_⟩
  show mFun 1 8 (b_law (tab (k + 14))) [.arr ns] [] = _
  have e0 : (if (if (ns.length : Int) < 4 then (ns.length : Int) else 4) > 2 then (if (ns.length : Int) < 4 then (ns.length : Int) else 4) else 2) = ((max 2 (min 4 ns.length) : Nat) : Int) := by
    split <;> split <;> omega
  have r0 : rngOk ((max 2 (min 4 ns.length) : Nat) : Int) = true := rng_nat (by omega)
  have ef : sFor (iRange1 (eBi oMax (lCons (eC (.int 2)) (lCons (eBi oMin (lCons (eC (.int 4)) (lCons (eBi oLen (lCons (eLv 0) (lNil))) (lNil)))) (lNil))))) (gNm 1) (lp_law_2 (tab (k + 14))) [.val (.arr ns), .un, .un, .un, .un, .un, .un, .un] [] = .nx [.val (.arr ns), x1, x2, x3, x4, x5, x6, x7] g' := by
    simp only [sFor_ap, iRange1_ap, eBi_ap, lCons_ap, lNil_ap, eC_ap, eLv_ap]
    simp only [List.length_cons, List.length_nil, List.map_cons, List.map_nil, List.cons_append, List.nil_append, List.getElem?_cons_zero, R.bind_ok, oLen_arr, oMin_ap, oMax_ap, e0, r0, if_true, Int.toNat_natCast]
    exact e
  have c0 : tab (k + 14) 12 [.lst []] g' = .ok (.tup [.int 0, .int 1]) g' := f12 (k := k + 11) [] g' ⟨by decide, fun l hl => (nomatch hl)⟩
  have v1 : spreadR [5] = Rat.divInt 0 1 := by decide +kernel
  have v2 : spreadR [0, 1] = Rat.divInt 1 2 := by decide +kernel
  have c1 : tab (k + 14) 12 [.lst [.int 5]] g' = .ok (.tup [.int 0, .int 1]) g' := by
    have := f12 (k := k + 11) [5] g' ⟨by decide, fun l hl => by simp at hl; subst hl; decide⟩
    rw [v1, ← dR_lit (by decide) (by decide)] at this
    exact this
  have c2 : tab (k + 14) 12 [.lst [.int 0, .int 1]] g' = .ok (.tup [.int 1, .int 2]) g' := by
    have := f12 (k := k + 11) [0, 1] g' ⟨by decide, fun l hl => by simp at hl; rcases hl with rfl | rfl <;> decide⟩
    rw [v2, ← dR_lit (by decide) (by decide)] at this
    exact this
  have eq : ∀ a b : Int, cmpop .Eq (.tup [.int a, .int b]) (.tup [.int a, .int b]) g' = .ok (.bl true) g' := fun a b => eq_same rfl
  have lim2 : (2 : Nat) ≤ LIM := by decide
  have lim1 : (1 : Nat) ≤ LIM := by decide
  unfold b_law mFun
  generalize sFor (iRange1 (eBi oMax (lCons (eC (.int 2)) (lCons (eBi oMin (lCons (eC (.int 4)) (lCons (eBi oLen (lCons (eLv 0) (lNil))) (lNil)))) (lNil))))) (gNm 1) (lp_law_2 (tab (k + 14))) = FL at *
  simp [ef, permL, c0, c1, c2, lim2, lim1, eq, endR]
theorem law_math (ns : List Int) (hn : ns.length ≤ 63) : ∃ G, tab 20 40 [.arr ns] [] = .ok (.bl true) G := law_at 5 ns hn
end LW
open PySem PySem.W PyProof.Rows in
set_option maxRecDepth 100000 in
set_option maxHeartbeats 0 in
theorem PySem.Challenge.cw_fednumbers_k38_whole_the_best_test_holds : PySem.Challenge.rw_fednumbers_k38_whole_the_best_test.Holds := by
  w_on; o_law; k_head; (case hw => w_witness2)
  k_fill
  refine GL.walk_G (l := PySem.Challenge.rw_fednumbers_k38_whole_the_best_test) (n := 63) (k := 20) (x := "_law_script") (m := LW.tab 20 40) rfl (by decide) rfl ⟨rfl, by decide, by decide⟩ (fun w h Y => PySem.W.kIn_of Y) ?F LW.law_math
  case F =>
    intro w mg fa h KX G hmg
    refine' LW.all_mk KX G hmg ?a1 ?l1 ?c1 ?k1 ?a2 ?l2 ?c2 ?k2 ?a3 ?l3 ?c3 ?k3 ?a4 ?l4 ?c4 ?k4 ?a5 ?l5 ?c5 ?k5 ?a6 ?l6 ?c6 ?k6 ?a7 ?l7 ?c7 ?k7 ?a8 ?l8 ?c8 ?k8 ?a9 ?l9 ?c9 ?k9 ?a10 ?l10 ?c10 ?k10 ?a11 ?l11 ?c11 ?k11 ?a12 ?l12 ?c12 ?k12 ?a13 ?l13 ?c13 ?k13 ?a14 ?l14 ?c14 ?k14 ?a15 ?l15 ?c15 ?k15 ?a16 ?l16 ?c16 ?k16 ?a17 ?l17 ?c17 ?k17 ?a18 ?l18 ?c18 ?k18 ?a19 ?l19 ?c19 ?k19 ?a20 ?l20 ?c20 ?k20 ?kd20_deep ?a21 ?l21 ?c21 ?k21 ?a22 ?l22 ?c22 ?k22 ?a23 ?l23 ?c23 ?k23 ?a24 ?l24 ?c24 ?k24 ?a25 ?l25 ?c25 ?k25 ?a26 ?l26 ?c26 ?k26 ?a27 ?l27 ?c27 ?k27 ?a28 ?l28 ?c28 ?k28 ?a29 ?l29 ?c29 ?k29 ?a30 ?l30 ?c30 ?k30 ?a31 ?l31 ?c31 ?k31 ?a32 ?l32 ?c32 ?k32 ?a33 ?l33 ?c33 ?k33 ?a34 ?l34 ?c34 ?k34 ?a35 ?l35 ?c35 ?k35 ?a36 ?l36 ?c36 ?k36 ?a37 ?l37 ?c37 ?k37 ?a38 ?l38 ?c38 ?k38 ?a39 ?l39 ?c39 ?k39 ?a40 ?l40 ?c40 ?k40 ?z_abs ?z_all ?z_bool ?z_int ?z_isinstance ?z_len ?z_list ?z_max ?z_min ?z_range ?z_repr ?z_str ?z_sum ?z_tuple ?z_zip ?m_LEAF ?m_MOST_FLOORS ?m_NOUGHT ?tl_NOUGHT ?kz_NOUGHT ?kd_NOUGHT ?m_TEST ?m_WORKS ?tl_WORKS ?lit_WORKS ?te_WORKS_plus ?te_WORKS_minus ?te_WORKS_times ?te_WORKS_over
    (case a1 => k_is)
    (case l1 => k_is)
    (case c1 => k_is)
    (case k1 => k_is)
    (case a2 => k_is)
    (case l2 => k_is)
    (case c2 => k_is)
    (case k2 => k_is)
    (case a3 => k_is)
    (case l3 => k_is)
    (case c3 => k_is)
    (case k3 => k_is)
    (case a4 => k_is)
    (case l4 => k_is)
    (case c4 => k_is)
    (case k4 => k_is)
    (case a5 => k_is)
    (case l5 => k_is)
    (case c5 => k_is)
    (case k5 => k_is)
    (case a6 => k_is)
    (case l6 => k_is)
    (case c6 => k_is)
    (case k6 => k_is)
    (case a7 => k_is)
    (case l7 => k_is)
    (case c7 => k_is)
    (case k7 => k_is)
    (case a8 => k_is)
    (case l8 => k_is)
    (case c8 => k_is)
    (case k8 => k_is)
    (case a9 => k_is)
    (case l9 => k_is)
    (case c9 => k_is)
    (case k9 => k_is)
    (case a10 => k_is)
    (case l10 => k_is)
    (case c10 => k_is)
    (case k10 => k_is)
    (case a11 => k_is)
    (case l11 => k_is)
    (case c11 => k_is)
    (case k11 => k_is)
    (case a12 => k_is)
    (case l12 => k_is)
    (case c12 => k_is)
    (case k12 => k_is)
    (case a13 => k_is)
    (case l13 => k_is)
    (case c13 => k_is)
    (case k13 => k_is)
    (case a14 => k_is)
    (case l14 => k_is)
    (case c14 => k_is)
    (case k14 => k_is)
    (case a15 => k_is)
    (case l15 => k_is)
    (case c15 => k_is)
    (case k15 => k_is)
    (case a16 => k_is)
    (case l16 => k_is)
    (case c16 => k_is)
    (case k16 => k_is)
    (case a17 => k_is)
    (case l17 => k_is)
    (case c17 => k_is)
    (case k17 => k_is)
    (case a18 => k_is)
    (case l18 => k_is)
    (case c18 => k_is)
    (case k18 => k_is)
    (case a19 => k_is)
    (case l19 => k_is)
    (case c19 => k_is)
    (case k19 => k_is)
    (case a20 => k_is)
    (case l20 => k_is)
    (case c20 => k_is)
    (case k20 => k_is)
    (case kd20_deep => k_is)
    (case a21 => k_is)
    (case l21 => k_is)
    (case c21 => k_is)
    (case k21 => k_is)
    (case a22 => k_is)
    (case l22 => k_is)
    (case c22 => k_is)
    (case k22 => k_is)
    (case a23 => k_is)
    (case l23 => k_is)
    (case c23 => k_is)
    (case k23 => k_is)
    (case a24 => k_is)
    (case l24 => k_is)
    (case c24 => k_is)
    (case k24 => k_is)
    (case a25 => k_is)
    (case l25 => k_is)
    (case c25 => k_is)
    (case k25 => k_is)
    (case a26 => k_is)
    (case l26 => k_is)
    (case c26 => k_is)
    (case k26 => k_is)
    (case a27 => k_is)
    (case l27 => k_is)
    (case c27 => k_is)
    (case k27 => k_is)
    (case a28 => k_is)
    (case l28 => k_is)
    (case c28 => k_is)
    (case k28 => k_is)
    (case a29 => k_is)
    (case l29 => k_is)
    (case c29 => k_is)
    (case k29 => k_is)
    (case a30 => k_is)
    (case l30 => k_is)
    (case c30 => k_is)
    (case k30 => k_is)
    (case a31 => k_is)
    (case l31 => k_is)
    (case c31 => k_is)
    (case k31 => k_is)
    (case a32 => k_is)
    (case l32 => k_is)
    (case c32 => k_is)
    (case k32 => k_is)
    (case a33 => k_is)
    (case l33 => k_is)
    (case c33 => k_is)
    (case k33 => k_is)
    (case a34 => k_is)
    (case l34 => k_is)
    (case c34 => k_is)
    (case k34 => k_is)
    (case a35 => k_is)
    (case l35 => k_is)
    (case c35 => k_is)
    (case k35 => k_is)
    (case a36 => k_is)
    (case l36 => k_is)
    (case c36 => k_is)
    (case k36 => k_is)
    (case a37 => k_is)
    (case l37 => k_is)
    (case c37 => k_is)
    (case k37 => k_is)
    (case a38 => k_is)
    (case l38 => k_is)
    (case c38 => k_is)
    (case k38 => k_is)
    (case a39 => k_is)
    (case l39 => k_is)
    (case c39 => k_is)
    (case k39 => k_is)
    (case a40 => k_is)
    (case l40 => k_is)
    (case c40 => k_is)
    (case k40 => k_is)
    (case z_abs => k_is)
    (case z_all => k_is)
    (case z_bool => k_is)
    (case z_int => k_is)
    (case z_isinstance => k_is)
    (case z_len => k_is)
    (case z_list => k_is)
    (case z_max => k_is)
    (case z_min => k_is)
    (case z_range => k_is)
    (case z_repr => k_is)
    (case z_str => k_is)
    (case z_sum => k_is)
    (case z_tuple => k_is)
    (case z_zip => k_is)
    (case m_LEAF => k_is)
    (case m_MOST_FLOORS => k_is)
    (case m_NOUGHT => k_is)
    (case tl_NOUGHT => k_is)
    (case kz_NOUGHT => decide)
    (case kd_NOUGHT => repeat (first | exact .nil | refine .cons ?_ ?_ | exact .int _ _ | exact .str _ _ | exact .bl _ | exact .non))
    (case m_TEST => k_is)
    (case m_WORKS => k_is)
    (case tl_WORKS => k_is)
    (case lit_WORKS => first | exact ⟨⟨_, _, rfl, rfl⟩, ⟨_, _, rfl, rfl⟩, ⟨_, _, rfl, rfl⟩, ⟨_, _, rfl, rfl⟩, trivial⟩ | (repeat (first | exact trivial | refine ⟨⟨_, _, rfl, rfl⟩, ?_⟩)))
    (case te_WORKS_plus => k_is)
    (case te_WORKS_minus => k_is)
    (case te_WORKS_times => k_is)
    (case te_WORKS_over => k_is)
