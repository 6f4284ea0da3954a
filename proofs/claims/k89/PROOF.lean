import PyProof.Rows.All
import Wide.All
import OpenK.AllK
import Wide.FinOn
import HandS.ForMost
import HandS.Walk
import HandS.Conv
import HandS.TupAny
import HandS.TupLe
import HandS.Rev
import HandS.RevRange
import HandS.Zip
import HandS.IsInst
import HandS.Style
import HandS.More
import HandS.SortOrd
import HandS.SortKw
import HandS.DictComp
import HandS.DictTup
import KE.DataEq
import HandS.Exc
import HandS.CallSlots
import HandS.SortRule
import HandS.SortInts
import HandS.SetBool
import HandS.SetKeys
import HandS.ExcOwn
import HandS.TryMany
import KE.GoesEnum
import KE.DatumOrd
import HandS.Small
import HandS.WordsExc
import PySem.Challenge.RW_saidbefore_k89_whole_ends_repeats
set_option Elab.async false
set_option linter.all false
set_option maxRecDepth 100000
set_option maxHeartbeats 4000000
/-! values as trees, what they are at a heap -/
namespace TI
open PySem PySem.Spec PyProof.Rows L2

/-- a text by its codes -/
def S (s : List Nat) : Str := ⟨s.toArray⟩
theorem S_cps (s : List Nat) : (S s).cps.toList = s := by simp [S]
theorem S_len (s : List Nat) : (S s).length = s.length := by simp [S, Str.length]
theorem S_of (x : Str) : S x.cps.toList = x := by simp [S]
theorem S_inj {s t : List Nat} (h : S s = S t) : s = t := by
  have := congrArg (fun x : Str => x.cps.toList) h
  simpa [S_cps] using this
theorem S_app (s t : List Nat) : S s ++ S t = S (s ++ t) := by
  show Str.append (S s) (S t) = _
  simp [Str.append, S]

inductive Ky where
  | i (n : Int) | s (x : List Nat)
  deriving DecidableEq, Repr
def Ky.k : Ky → Key
  | .i n => .inl n
  | .s x => .inr (S x)
theorem Ky.k_inj {a b : Ky} (h : a.k = b.k) : a = b := by
  cases a <;> cases b <;> simp [Ky.k] at h
  · subst h; rfl
  · rw [S_inj h]

inductive D where
  | non | bl (b : Bool) | int (i : Int) | str (s : List Nat)
  | tup (xs : List D) | lst (xs : List D)
  | dK (ks : List Ky) (vs : List D)
  | dT (ks : List (List Ky)) (vs : List D)
  | wel
  deriving Repr

mutual
/-- nothing that can change lies within -/
def D.pure : D → Bool
  | .non | .bl _ | .int _ | .str _ | .wel => true
  | .tup xs => D.pureL xs
  | .lst _ | .dK _ _ | .dT _ _ => false
def D.pureL : List D → Bool
  | [] => true
  | d :: ds => d.pure && D.pureL ds
end

def mutO : HO → Bool
  | .lst _ | .dK _ | .dT _ | .ext _ => true
  | _ => false

mutual
/-- v is the tree d at H; what can change and is reached is not in B; r: the well -/
inductive Den (K : PySem.W.Frag) (r : Addr) (H : Hp) (B : Addr → Prop) : V → D → Prop
  | non : Den K r H B .non .non
  | bl (b : Bool) : Den K r H B (.bl b) (.bl b)
  | int (i : Int) : Den K r H B (.int i) (.int i)
  | str (s : List Nat) : Den K r H B (.str (S s)) (.str s)
  | tup {a : Addr} {vs : List V} {ds : List D} : H a = some (.tup vs) → DenL K r H B vs ds → Den K r H B (.ref a) (.tup ds)
  | lst {a : Addr} {vs : List V} {ds : List D} : H a = some (.lst vs) → ¬ B a → DenL K r H B vs ds → Den K r H B (.ref a) (.lst ds)
  | dK {a : Addr} {kvs : List (Key × V)} {ks : List Ky} {ds : List D} : H a = some (.dK kvs) → ¬ B a → kvs.map (·.1) = ks.map Ky.k → DenL K r H B (kvs.map (·.2)) ds → Den K r H B (.ref a) (.dK ks ds)
  | dT {a : Addr} {kvs : List (List Key × V)} {ks : List (List Ky)} {ds : List D} : H a = some (.dT kvs) → ¬ B a → kvs.map (·.1) = ks.map (·.map Ky.k) → DenL K r H B (kvs.map (·.2)) ds → Den K r H B (.ref a) (.dT ks ds)
  | wel : Den K r H B (.ref r) .wel
inductive DenL (K : PySem.W.Frag) (r : Addr) (H : Hp) (B : Addr → Prop) : List V → List D → Prop
  | nil : DenL K r H B [] []
  | cons {v : V} {vs : List V} {d : D} {ds : List D} : Den K r H B v d → DenL K r H B vs ds → DenL K r H B (v :: vs) (d :: ds)
end

/-- what is not in B stays -/
def Fr (B : Addr → Prop) (H H' : Hp) : Prop := ∀ a o, H a = some o → ¬ B a → H' a = some o
/-- B holds things that can change, all there -/
def BOk (B : Addr → Prop) (H : Hp) : Prop := ∀ a, B a → ∃ o, H a = some o ∧ mutO o = true
/-- what of B is there can change -/
def BM (B : Addr → Prop) (H : Hp) : Prop := ∀ a o, H a = some o → B a → mutO o = true
theorem BOk.bm {B : Addr → Prop} {H : Hp} (h : BOk B H) : BM B H := fun a o e b => by
  obtain ⟨o', e', m⟩ := h a b
  rw [e] at e'; cases e'; exact m
theorem Fr.refl {B : Addr → Prop} {H : Hp} : Fr B H H := fun _ _ h _ => h
theorem Fr.trans {B : Addr → Prop} {H H1 H2 : Hp} (a : Fr B H H1) (b : Fr B H1 H2) : Fr B H H2 := fun x o h n => b x o (a x o h n) n
theorem Fr.mono {B B' : Addr → Prop} {H H' : Hp} (a : Fr B H H') (h : ∀ x, B x → B' x) : Fr B' H H' := fun x o e n => a x o e fun b => n (h x b)
theorem Fr.new {B : Addr → Prop} {H : Hp} {p : Addr} {o : HO} (h : H p = none) : Fr B H (upd H p o) := fun x u e _ => by
  rw [upd_ne (ne_of_none e h)]; exact e
theorem Fr.put {B : Addr → Prop} {H : Hp} {p : Addr} {o : HO} (h : B p) : Fr B H (upd H p o) := fun x u e n => by
  rw [upd_ne (fun q => n (by rw [q]; exact h))]; exact e

section
variable {K : PySem.W.Frag} {r : Addr} {H H' : Hp} {B B' : Addr → Prop}
theorem tup_frM {a : Addr} {vs : List V} (f : Fr B H H') (b : BM B H) (h : H a = some (.tup vs)) : H' a = some (.tup vs) :=
  f _ _ h fun q => by
    have := b a _ h q
    cases this
theorem tup_fr {a : Addr} {vs : List V} (f : Fr B H H') (b : BOk B H) (h : H a = some (.tup vs)) : H' a = some (.tup vs) := tup_frM f b.bm h
mutual
theorem Den.frM (f : Fr B H H') (b : BM B H) : ∀ (d : D) (v : V), Den K r H B v d → Den K r H' B v d
  | .non, _, h => by cases h; exact .non
  | .bl _, _, h => by cases h; exact .bl _
  | .int _, _, h => by cases h; exact .int _
  | .str _, _, h => by cases h; exact .str _
  | .tup ds, _, h => by
    cases h with
    | tup h1 h2 => exact .tup (tup_frM f b h1) (DenL.frM f b ds _ h2)
  | .lst ds, _, h => by
    cases h with
    | lst h1 n h2 => exact .lst (f _ _ h1 n) n (DenL.frM f b ds _ h2)
  | .dK ks ds, _, h => by
    cases h with
    | dK h1 n e h2 => exact .dK (f _ _ h1 n) n e (DenL.frM f b ds _ h2)
  | .dT ks ds, _, h => by
    cases h with
    | dT h1 n e h2 => exact .dT (f _ _ h1 n) n e (DenL.frM f b ds _ h2)
  | .wel, _, h => by cases h; exact .wel
theorem DenL.frM (f : Fr B H H') (b : BM B H) : ∀ (ds : List D) (vs : List V), DenL K r H B vs ds → DenL K r H' B vs ds
  | [], _, h => by cases h; exact .nil
  | d :: ds, _, h => by
    cases h with
    | cons h1 h2 => exact .cons (Den.frM f b d _ h1) (DenL.frM f b ds _ h2)
end
theorem Den.fr (f : Fr B H H') (b : BOk B H) (d : D) (v : V) (h : Den K r H B v d) : Den K r H' B v d := Den.frM f b.bm d v h
theorem DenL.fr (f : Fr B H H') (b : BOk B H) (ds : List D) (vs : List V) (h : DenL K r H B vs ds) : DenL K r H' B vs ds := DenL.frM f b.bm ds vs h
mutual
/-- another B, in which nothing is that is there and not in the first -/
theorem Den.ban (n : ∀ a o, H a = some o → mutO o = true → ¬ B a → ¬ B' a) : ∀ (d : D) (v : V), Den K r H B v d → Den K r H B' v d
  | .non, _, h => by cases h; exact .non
  | .bl _, _, h => by cases h; exact .bl _
  | .int _, _, h => by cases h; exact .int _
  | .str _, _, h => by cases h; exact .str _
  | .tup ds, _, h => by
    cases h with
    | tup h1 h2 => exact .tup h1 (DenL.ban n ds _ h2)
  | .lst ds, _, h => by
    cases h with
    | lst h1 m h2 => exact .lst h1 (n _ _ h1 rfl m) (DenL.ban n ds _ h2)
  | .dK ks ds, _, h => by
    cases h with
    | dK h1 m e h2 => exact .dK h1 (n _ _ h1 rfl m) e (DenL.ban n ds _ h2)
  | .dT ks ds, _, h => by
    cases h with
    | dT h1 m e h2 => exact .dT h1 (n _ _ h1 rfl m) e (DenL.ban n ds _ h2)
  | .wel, _, h => by cases h; exact .wel
theorem DenL.ban (n : ∀ a o, H a = some o → mutO o = true → ¬ B a → ¬ B' a) : ∀ (ds : List D) (vs : List V), DenL K r H B vs ds → DenL K r H B' vs ds
  | [], _, h => by cases h; exact .nil
  | d :: ds, _, h => by
    cases h with
    | cons h1 h2 => exact .cons (Den.ban n d _ h1) (DenL.ban n ds _ h2)
end
mutual
/-- of a pure tree B says nothing -/
theorem Den.pur : ∀ (d : D) (v : V), d.pure = true → Den K r H B v d → Den K r H B' v d
  | .non, _, _, h => by cases h; exact .non
  | .bl _, _, _, h => by cases h; exact .bl _
  | .int _, _, _, h => by cases h; exact .int _
  | .str _, _, _, h => by cases h; exact .str _
  | .tup ds, _, p, h => by
    cases h with
    | tup h1 h2 => exact .tup h1 (DenL.pur ds _ (by simpa [D.pure] using p) h2)
  | .lst ds, _, p, h => by simp [D.pure] at p
  | .dK _ _, _, p, h => by simp [D.pure] at p
  | .dT _ _, _, p, h => by simp [D.pure] at p
  | .wel, _, _, h => by cases h; exact .wel
theorem DenL.pur : ∀ (ds : List D) (vs : List V), D.pureL ds = true → DenL K r H B vs ds → DenL K r H B' vs ds
  | [], _, _, h => by cases h; exact .nil
  | d :: ds, _, p, h => by
    simp only [D.pureL, Bool.and_eq_true] at p
    cases h with
    | cons h1 h2 => exact .cons (Den.pur d _ p.1 h1) (DenL.pur ds _ p.2 h2)
end
theorem DenL.length : ∀ {vs : List V} {ds : List D}, DenL K r H B vs ds → vs.length = ds.length
  | _, _, .nil => rfl
  | _, _, .cons _ t => by simp [t.length]
theorem DenL.get : ∀ {vs : List V} {ds : List D} {i : Nat} {d : D}, DenL K r H B vs ds → ds[i]? = some d → ∃ v, vs[i]? = some v ∧ Den K r H B v d
  | _, _, _, _, .nil, e => by simp at e
  | _, _, 0, _, .cons h _, e => by simp at e; subst e; exact ⟨_, rfl, h⟩
  | _, _, i + 1, _, .cons _ t, e => by
    obtain ⟨v, h1, h2⟩ := t.get (i := i) (by simpa using e)
    exact ⟨v, by simpa using h1, h2⟩
theorem DenL.getV : ∀ {vs : List V} {ds : List D} {i : Nat} {v : V}, DenL K r H B vs ds → vs[i]? = some v → ∃ d, ds[i]? = some d ∧ Den K r H B v d
  | _, _, _, _, .nil, e => by simp at e
  | _, _, 0, _, .cons h _, e => by simp at e; subst e; exact ⟨_, rfl, h⟩
  | _, _, i + 1, _, .cons _ t, e => by
    obtain ⟨v, h1, h2⟩ := t.getV (i := i) (by simpa using e)
    exact ⟨v, by simpa using h1, h2⟩
theorem DenL.append : ∀ {vs : List V} {ds : List D} {ws : List V} {es : List D}, DenL K r H B vs ds → DenL K r H B ws es → DenL K r H B (vs ++ ws) (ds ++ es)
  | _, _, _, _, .nil, h => h
  | _, _, _, _, .cons h t, u => .cons h (t.append u)
theorem DenL.take : ∀ {vs : List V} {ds : List D} (n : Nat), DenL K r H B vs ds → DenL K r H B (vs.take n) (ds.take n)
  | _, _, 0, _ => .nil
  | _, _, _ + 1, .nil => .nil
  | _, _, n + 1, .cons h t => .cons h (t.take n)
theorem DenL.drop : ∀ {vs : List V} {ds : List D} (n : Nat), DenL K r H B vs ds → DenL K r H B (vs.drop n) (ds.drop n)
  | _, _, 0, h => h
  | _, _, _ + 1, .nil => .nil
  | _, _, n + 1, .cons _ t => t.drop n
theorem DenL.rev {vs : List V} {ds : List D} (h : DenL K r H B vs ds) : DenL K r H B vs.reverse ds.reverse := by
  induction vs generalizing ds with
  | nil => cases h; exact .nil
  | cons v vs ih =>
    cases h with
    | cons h1 h2 => rw [List.reverse_cons, List.reverse_cons]; exact (ih h2).append (.cons h1 .nil)
theorem DenL.set {v : V} {d : D} (q : Den K r H B v d) : ∀ {vs : List V} {ds : List D} (i : Nat), DenL K r H B vs ds → DenL K r H B (vs.set i v) (ds.set i d)
  | _, _, _, .nil => .nil
  | _, _, 0, .cons _ t => .cons q t
  | _, _, i + 1, .cons h t => .cons h (t.set q i)
theorem DenL.rep {vs : List V} {ds : List D} (h : DenL K r H B vs ds) : ∀ k : Nat, DenL K r H B (List.replicate k vs).flatten (List.replicate k ds).flatten
  | 0 => .nil
  | k + 1 => by rw [List.replicate_succ, List.replicate_succ, List.flatten_cons, List.flatten_cons]; exact h.append (h.rep k)
theorem DenL.ints : ∀ {vs : List V} {ns : List Int}, DenL K r H B vs (ns.map D.int) → vs = ns.map V.int
  | _, [], h => by cases h; rfl
  | _, n :: ns, h => by
    cases h with
    | cons h1 h2 => cases h1; rw [h2.ints]; rfl
theorem DenL.of_ints : ∀ {ns : List Int}, DenL K r H B (ns.map V.int) (ns.map D.int)
  | [] => .nil
  | _ :: _ => .cons (.int _) .of_ints
theorem DenL.strs : ∀ {vs : List V} {ns : List (List Nat)}, DenL K r H B vs (ns.map D.str) → vs = ns.map (V.str ∘ S)
  | _, [], h => by cases h; rfl
  | _, n :: ns, h => by
    cases h with
    | cons h1 h2 => cases h1; rw [h2.strs]; rfl
theorem DenL.of_strs : ∀ {ns : List (List Nat)}, DenL K r H B (ns.map (V.str ∘ S)) (ns.map D.str)
  | [] => .nil
  | _ :: _ => .cons (.str _) .of_strs
theorem DenL.bls : ∀ {vs : List V} {ns : List Bool}, DenL K r H B vs (ns.map D.bl) → vs = ns.map V.bl
  | _, [], h => by cases h; rfl
  | _, n :: ns, h => by
    cases h with
    | cons h1 h2 => cases h1; rw [h2.bls]; rfl
end
end TI
set_option Elab.async false
set_option linter.all false
set_option maxRecDepth 100000
set_option maxHeartbeats 4000000
/-! the small language: its terms, what they are worth -/
namespace TI
open PySem L2

abbrev G := List (List Int)
structure Er where
  cls : List Nat
  args : List D
inductive Res (α : Type) where
  | ok (a : α) (g : G) | err (e : Er) (g : G) | stuck
def M (α : Type) : Type := G → Res α
namespace M
def ret {α : Type} (a : α) : M α := fun g => .ok a g
def bnd {α β : Type} (m : M α) (f : α → M β) : M β := fun g => match m g with
  | .ok a g' => f a g'
  | .err e g' => .err e g'
  | .stuck => .stuck
def stk {α : Type} : M α := fun _ => .stuck
def thr {α : Type} (e : Er) : M α := fun g => .err e g
end M
instance : Monad M where
  pure := M.ret
  bind := M.bnd
theorem M.ext {α : Type} {m n : M α} (h : ∀ g, m g = n g) : m = n := funext h
instance : LawfulMonad M := LawfulMonad.mk' M
  (id_map := fun x => by
    funext g
    show M.bnd x (fun a => M.ret (id a)) g = x g
    unfold M.bnd
    cases x g <;> rfl)
  (pure_bind := fun x f => rfl)
  (bind_assoc := fun x f h => by
    funext g
    show M.bnd (M.bnd x f) h g = M.bnd x (fun a => M.bnd (f a) h) g
    unfold M.bnd
    cases x g <;> rfl)
@[simp] theorem M.stk_bind {α β : Type} (f : α → M β) : ((M.stk : M α) >>= f) = M.stk := rfl
@[simp] theorem M.thr_bind {α β : Type} (e : Er) (f : α → M β) : ((M.thr e : M α) >>= f) = M.thr e := rfl
/-- nothing is raised -/
def nox {α : Type} (m : M α) : M α := fun g => match m g with
  | .ok a g' => .ok a g'
  | _ => .stuck
@[simp] theorem nox_pure {α : Type} (a : α) : nox (pure a) = pure a := rfl
@[simp] theorem nox_stk {α : Type} : nox (M.stk : M α) = M.stk := rfl
theorem nox_bind {α β : Type} (m : M α) (f : α → M β) : nox (m >>= f) = nox m >>= fun a => nox (f a) := by
  funext g
  show nox (M.bnd m f) g = M.bnd (nox m) (fun a => nox (f a)) g
  cases h : m g <;> simp only [nox, M.bnd, h]
/-- an Option's value, else stuck -/
def opt {α : Type} : Option α → M α
  | some a => pure a
  | none => M.stk
@[simp] theorem opt_some {α : Type} (a : α) : opt (some a) = pure a := rfl
@[simp] theorem opt_none {α : Type} : opt (none : Option α) = M.stk := rfl
/-- if c holds m, else stuck -/
def grd {α : Type} (c : Bool) (m : M α) : M α := if c = true then m else M.stk
theorem grd_true {α : Type} {c : Bool} {m : M α} (h : c = true) : grd c m = m := if_pos h

/-! ### what operations are worth -/
def line : Nat := 16777216
theorem line_eq : line = sizeLine := by rw [sizeLine_eq]; rfl

mutual
def D.py : D → PyData
  | .non => .none
  | .bl b => .bool b
  | .int i => .int i
  | .str s => .str (S s)
  | .tup xs => .tuple (D.pyL xs)
  | .lst xs => .list (D.pyL xs)
  | .dK _ _ | .dT _ _ | .wel => .dict []
def D.pyL : List D → List PyData
  | [] => []
  | x :: xs => x.py :: D.pyL xs
end
mutual
/-- no dict lies within -/
def D.flat : D → Bool
  | .non | .bl _ | .int _ | .str _ => true
  | .tup xs | .lst xs => D.flatL xs
  | .dK _ _ | .dT _ _ | .wel => false
def D.flatL : List D → Bool
  | [] => true
  | x :: xs => x.flat && D.flatL xs
end
mutual
def D.dep : D → Nat
  | .tup xs | .lst xs => D.depL xs + 1
  | _ => 0
def D.depL : List D → Nat
  | [] => 0
  | x :: xs => max x.dep (D.depL xs)
end
/-- what may be compared by == -/
def D.cmpOk (d : D) : Bool := d.flat && decide (d.dep ≤ 60)
mutual
def eqB : D → D → Bool
  | .non, .non => true
  | .bl a, .bl b => a == b
  | .bl a, .int j => (if a then 1 else 0) == j
  | .int i, .bl b => i == (if b then 1 else 0)
  | .int i, .int j => i == j
  | .str x, .str y => x == y
  | .lst xs, .lst ys => eqL xs ys
  | .tup xs, .tup ys => eqL xs ys
  | _, _ => false
def eqL : List D → List D → Bool
  | [], [] => true
  | x :: xs, y :: ys => eqB x y && eqL xs ys
  | _, _ => false
end
def eqD (a b : D) : M Bool := grd (a.cmpOk && b.cmpOk) (pure (eqB a b))

def isCont : D → Bool
  | .lst _ | .dK _ _ | .dT _ _ => true
  | _ => false
/-- the children of a tree -/
def D.kids : D → List D
  | .lst xs | .tup xs | .dK _ xs | .dT _ xs => xs
  | _ => []
def isScal : D → Bool
  | .non | .bl _ | .int _ | .str _ => true
  | _ => false
/-- a dict's place of a key -/
def kyOf : D → Option Ky
  | .int i => some (.i i)
  | .str s => some (.s s)
  | _ => none
def kyL : List D → Option (List Ky)
  | [] => some []
  | d :: ds => match kyOf d, kyL ds with
    | some k, some ks => some (k :: ks)
    | _, _ => none
def kyT : D → Option (List Ky)
  | .tup ds => kyL ds
  | _ => none
def ltN : List Nat → List Nat → Bool
  | [], [] => false
  | [], _ :: _ => true
  | _ :: _, [] => false
  | x :: xs, y :: ys => if x = y then ltN xs ys else decide (x < y)
def ltKy : Ky → Ky → Bool
  | .i a, .i b => decide (a < b)
  | .s a, .s b => ltN a b
  | .i _, .s _ => true
  | .s _, .i _ => false
def ltKL : List Ky → List Ky → Bool
  | [], [] => false
  | [], _ :: _ => true
  | _ :: _, [] => false
  | x :: xs, y :: ys => if x = y then ltKL xs ys else ltKy x y
/-- the key of a tree that can be sorted -/
def keyD : D → Option (List Ky)
  | .int i => some [.i i]
  | .str s => some [.s s]
  | .tup ds => kyL ds
  | _ => none
def kyB : Ky → Bool
  | .i _ => true
  | .s _ => false
/-- ints: 0, texts: 1, tuples: their members' kinds -/
def shD : D → Option (Nat × List Bool)
  | .int _ => some (0, [])
  | .str _ => some (1, [])
  | .tup ds => match kyL ds with
    | some (k :: ks) => some (2, (k :: ks).map kyB)
    | _ => none
  | _ => none
/-- all of one kind -/
def srtOk : List D → Bool
  | [] => true
  | d :: ds => (shD d).isSome && ds.all fun e => decide (shD e = shD d)
def leD (a b : D) : Bool := !ltKL ((keyD b).getD []) ((keyD a).getD [])
def sortD (ds : List D) : List D := ds.mergeSort leD
def Ky.d : Ky → D
  | .i n => .int n
  | .s x => .str x
/-- a key is put into a set -/
def addK (ks : List Ky) (k : Ky) : List Ky := if k ∈ ks then ks else ks ++ [k]
def memA {α : Type} [DecidableEq α] (k : α) (ks : List α) : Bool := ks.any fun a => decide (a = k)
def lookA {α : Type} [DecidableEq α] (k : α) : List α → List D → Option D
  | a :: as, d :: ds => if a = k then some d else lookA k as ds
  | _, _ => none
def repA {α : Type} [DecidableEq α] (k : α) (v : D) : List α → List D → List D
  | a :: as, d :: ds => (if a = k then v else d) :: repA k v as ds
  | _, _ => []
def putA {α : Type} [DecidableEq α] (k : α) (v : D) (ks : List α) (vs : List D) : List α × List D := if memA k ks = true then (ks, repA k v ks vs) else (ks ++ [k], vs ++ [v])

/-- 'b stands in a' -/
def hasSub (b : List Nat) : List Nat → Bool
  | [] => b.isEmpty
  | a :: as => b.isPrefixOf (a :: as) || hasSub b as
def ltS : List Nat → List Nat → Bool
  | [], [] => false
  | [], _ :: _ => true
  | _ :: _, [] => false
  | x :: xs, y :: ys => if x = y then ltS xs ys else decide (x < y)
def cmulB (i j : Int) : Bool := decide (-(2 ^ 64) < i ∧ i < 2 ^ 64) || decide (-(2 ^ 64) < j ∧ j < 2 ^ 64)
def cpowB (i j : Int) : Bool := decide (0 ≤ j ∧ j ≤ 1000000 ∧ i.natAbs < 2 ^ 64)
def cutL {α : Type} (xs : List α) (lo hi : Option Int) : List α := (xs.drop (HT.sIx xs.length 0 lo)).take (HT.sIx xs.length xs.length hi - HT.sIx xs.length 0 lo)

def binD : Operator → D → D → M D
  | .Add, .int i, .int j => pure (.int (i + j))
  | .Add, .str s, .str t => grd (decide (s.length + t.length ≤ line)) (pure (.str (s ++ t)))
  | .Add, .lst xs, .lst ys => grd (decide (xs.length + ys.length ≤ line)) (pure (.lst (xs ++ ys)))
  | .Add, .tup xs, .tup ys => grd (decide (xs.length + ys.length ≤ line)) (pure (.tup (xs ++ ys)))
  | .Sub, .int i, .int j => pure (.int (i - j))
  | .Mult, .int i, .int j => grd (cmulB i j) (pure (.int (i * j)))
  | .Mult, .lst xs, .int k => grd (decide (-(2 ^ 63) ≤ k ∧ k < 2 ^ 63 ∧ xs.length * k.toNat ≤ line)) (pure (.lst (List.replicate k.toNat xs).flatten))
  | .FloorDiv, .int i, .int j => grd (decide (0 < j ∧ j < 1073741824)) (pure (.int (i / j)))
  | .Mod, .int i, .int j => grd (decide (0 < j)) (pure (.int (i % j)))
  | .Pow, .int i, .int j => grd (cpowB i j) (pure (.int (i ^ j.toNat)))
  | .RShift, .int i, .int j => grd (decide (0 ≤ j)) (pure (.int (i / 2 ^ j.toNat)))
  | .BitXor, .int i, .int j => pure (.int (Builtin.bitXor i j))
  | _, _, _ => M.stk

def inD (d : D) : D → M Bool
  | .str t => match d with
    | .str s => pure (hasSub s t)
    | _ => M.stk
  | .lst xs => grd (d.cmpOk && (D.lst xs).cmpOk) (pure (xs.any fun z => eqB z d))
  | .tup xs => grd (d.cmpOk && (D.tup xs).cmpOk) (pure (xs.any fun z => eqB z d))
  | .dK ks _ => match kyOf d with
    | some k => pure (memA k ks)
    | none => M.stk
  | .dT ks _ => match kyT d with
    | some k => pure (memA k ks)
    | none => M.stk
  | _ => M.stk

def cmpD : CmpOp → D → D → M Bool
  | .Eq, a, b => eqD a b
  | .NotEq, a, b => do pure (!(← eqD a b))
  | .Lt, .int i, .int j => pure (decide (i < j))
  | .LtE, .int i, .int j => pure (decide (i ≤ j))
  | .Gt, .int i, .int j => pure (decide (j < i))
  | .GtE, .int i, .int j => pure (decide (j ≤ i))
  | .Lt, .str s, .str t => pure (ltS s t)
  | .In, a, b => inD a b
  | .NotIn, a, b => do pure (!(← inD a b))
  | .Is, a, .non => pure (match a with | .non => true | _ => false)
  | .IsNot, a, .non => pure (match a with | .non => false | _ => true)
  | _, _, _ => M.stk

def subD : D → D → M D
  | .lst xs, .int i => opt (atI xs i)
  | .tup xs, .int i => opt (atI xs i)
  | .str s, .int i => grd (decide (s.length ≤ line)) (match atI s i with
    | some c => pure (.str [c])
    | none => M.stk)
  | .dK ks vs, k => match kyOf k with
    | some k => opt (lookA k ks vs)
    | none => M.stk
  | .dT ks vs, k => match kyT k with
    | some k => opt (lookA k ks vs)
    | none => M.stk
  | _, _ => M.stk
def slcD : D → Option Int → Option Int → M D
  | .str s, lo, hi => grd (decide (s.length ≤ line)) (pure (.str (cutL s lo hi)))
  | .lst xs, lo, hi => pure (.lst (cutL xs lo hi))
  | .tup xs, lo, hi => pure (.tup (cutL xs lo hi))
  | _, _, _ => M.stk

/-- the built-ins by their names -/
inductive Bl where
  | len | sum | max | min | abs | int | tuple | list | any | all | ord | sorted
  deriving DecidableEq, Repr
def Bl.name : Bl → Str
  | .len => "len" | .sum => "sum" | .max => "max" | .min => "min" | .abs => "abs" | .int => "int" | .tuple => "tuple" | .list => "list" | .any => "any" | .all => "all" | .ord => "ord" | .sorted => "sorted"
def intsOf : List D → Option (List Int)
  | [] => some []
  | .int i :: ds => (intsOf ds).map (i :: ·)
  | _ => none
def blsOf : List D → Option (List Bool)
  | [] => some []
  | .bl i :: ds => (blsOf ds).map (i :: ·)
  | _ => none
def strsOf : List D → Option (List (List Nat))
  | [] => some []
  | .str i :: ds => (strsOf ds).map (i :: ·)
  | _ => none
def maxI : Int → List Int → Int
  | m, [] => m
  | m, n :: ns => maxI (if m < n then n else m) ns
def minI : Int → List Int → Int
  | m, [] => m
  | m, n :: ns => minI (if n < m then n else m) ns
def bltD : Bl → List D → M D
  | .len, [.str s] => grd (decide (s.length ≤ line)) (pure (.int s.length))
  | .len, [.lst xs] => pure (.int xs.length)
  | .len, [.tup xs] => pure (.int xs.length)
  | .len, [.dK ks _] => pure (.int ks.length)
  | .sum, [.lst xs] => match intsOf xs with
    | some ns => pure (.int ns.sum)
    | none => M.stk
  | .max, [.lst xs] => match intsOf xs with
    | some (n :: ns) => pure (.int (maxI n ns))
    | _ => M.stk
  | .min, [.lst xs] => match intsOf xs with
    | some (n :: ns) => pure (.int (minI n ns))
    | _ => M.stk
  | .max, [.int i, .int j] => pure (.int (if j > i then j else i))
  | .min, [.int i, .int j] => pure (.int (if j < i then j else i))
  | .abs, [.int i] => pure (.int (if i < 0 then -i else i))
  | .int, [.int i] => pure (.int i)
  | .int, [.bl b] => pure (.int (if b then 1 else 0))
  | .tuple, [.lst xs] => pure (.tup xs)
  | .tuple, [.tup xs] => pure (.tup xs)
  | .list, [.lst xs] => pure (.lst xs)
  | .list, [.tup xs] => pure (.lst xs)
  | .any, [.lst xs] => match blsOf xs with
    | some bs => pure (.bl (bs.any id))
    | none => M.stk
  | .all, [.lst xs] => match blsOf xs with
    | some bs => pure (.bl (bs.all id))
    | none => M.stk
  | .ord, [.str [c]] => pure (.int c)
  | .sum, [.tup xs] => match intsOf xs with
    | some ns => pure (.int ns.sum)
    | none => M.stk
  | .sorted, [.lst xs] => grd (srtOk xs) (pure (.lst (sortD xs)))
  | .sorted, [.dK ks _] => grd (srtOk (ks.map Ky.d)) (pure (.lst (sortD (ks.map Ky.d))))
  | _, _ => M.stk

/-- methods of built-in types -/
inductive Mt where
  | join | find | get
  deriving DecidableEq, Repr
def Mt.name : Mt → Str
  | .join => "join" | .find => "find" | .get => "get"
def joinS (sep : List Nat) : List (List Nat) → List Nat
  | [] => []
  | [x] => x
  | x :: y :: r => x ++ sep ++ joinS sep (y :: r)
def sumLen : List (List Nat) → Nat
  | [] => 0
  | x :: r => x.length + sumLen r
def metD : Mt → D → List D → M D
  | .join, .str sep, [.lst xs] => match strsOf xs with
    | some ss => grd (decide (sumLen ss + ss.length * sep.length ≤ line)) (pure (.str (joinS sep ss)))
    | none => M.stk
  | .get, .dK ks vs, [k, d] => match kyOf k with
    | some k => pure ((lookA k ks vs).getD d)
    | none => M.stk
  | .get, .dT ks vs, [k, d] => match kyT k with
    | some k => pure ((lookA k ks vs).getD d)
    | none => M.stk
  | _, _, _ => M.stk

/-- the method is one of the value's type -/
def recOk : Mt → D → Bool
  | .join, .str _ | .find, .str _ | .get, .dK _ _ | .get, .dT _ _ => true
  | _, _ => false
/-- types in isinstance -/
inductive Ty where
  | bool | int | str | tuple | list
  deriving DecidableEq, Repr
def Ty.name : Ty → Str
  | .bool => "bool" | .int => "int" | .str => "str" | .tuple => "tuple" | .list => "list"
def isTy : D → Ty → Bool
  | .bl _, .bool | .bl _, .int | .int _, .int | .str _, .str | .tup _, .tuple | .lst _, .list => true
  | _, _ => false
def tyOk : D → Bool
  | .wel => false
  | _ => true

/-! ### terms -/
abbrev Sem := List D → M D
mutual
inductive Tg where
  | nm (i : Nat)
  | tp (ts : Tgs)
inductive Tgs where
  | nil
  | cons (t : Tg) (ts : Tgs)
end
mutual
inductive Ex where
  | var (i : Nat)
  | con (d : Const)
  | glo (x : Str) (d : D)
  | bin (o : Operator) (a b : Ex)
  | neg (a : Ex)
  | nt (a : Ex)
  | cmp (o : CmpOp) (a b : Ex)
  | cmp2 (o o' : CmpOp) (a b c : Ex)
  | and (es : Exs)
  | or (es : Exs)
  | ite (c a b : Ex)
  | tup (es : Exs)
  | lst (es : Exs)
  | sub (a i : Ex)
  | slc (a : Ex) (lo hi : Op)
  | rvs (a : Ex)
  | call (x : Str) (f : Sem) (es : Exs)
  | blt (b : Bl) (es : Exs)
  | met (m : Mt) (a : Ex) (es : Exs)
  | isi (a : Ex) (ts : List Ty) (one : Bool)
  | comp (tg : Tg) (it : It) (c : Op) (e : Ex) (own : List (Str × Nat))
  | dic (t : Bool)
  | ssc (tg : Tg) (it : It) (c : Op) (e : Ex) (own : List (Str × Nat))
  | keyl (i x : Nat)
  | mxd (a : Ex) (d : Int)
inductive Exs where
  | nil
  | cons (e : Ex) (es : Exs)
inductive Op where
  | no
  | so (e : Ex)
inductive It where
  | of (e : Ex)
  | rng (es : Exs)
  | enu (e : Ex)
  | zip (a b : Ex)
  | rev (e : Ex)
end

inductive Sl where
  | no | val (d : D) | own (d : D) | ow2 (d : D)
def Sl.d : Sl → Option D
  | .no => none
  | .val d | .own d | .ow2 d => some d
def vget (ρ : List Sl) (i : Nat) : Option D := (ρ[i]?).bind Sl.d
def wipeS (ρ : List Sl) : List Nat → List Sl
  | [] => ρ
  | v :: vs => (wipeS ρ vs).set v .no

def conD : Const → M D
  | .none => pure .non
  | .bool b => pure (.bl b)
  | .int i => pure (.int i)
  | .str x => pure (.str x.cps.toList)
  | _ => M.stk
mutual
def bindT : Tg → D → List Sl → M (List Sl)
  | .nm i, d, ρ => pure (ρ.set i (.val d))
  | .tp ts, d, ρ => match d with
    | .tup ds => bindTs ts ds ρ
    | _ => M.stk
def bindTs : Tgs → List D → List Sl → M (List Sl)
  | .nil, [], ρ => pure ρ
  | .cons t ts, d :: ds, ρ => do bindTs ts ds (← bindT t d ρ)
  | _, _, _ => M.stk
end
def compL {α β : Type} (f : α → M (Option β)) : List α → M (List β)
  | [] => pure []
  | d :: ds => do
    let o ← f d
    let r ← compL f ds
    pure (match o with
      | some x => x :: r
      | none => r)
def enumFrom' (n : Nat) : List D → List D
  | [] => []
  | d :: ds => .tup [.int n, d] :: enumFrom' (n + 1) ds
def zipD : List D → List D → List D
  | a :: as, b :: bs => .tup [a, b] :: zipD as bs
  | _, _ => []
/-- lo, lo + c, .., n of them -/
def rngD (lo c : Int) : Nat → List D
  | 0 => []
  | n + 1 => .int lo :: rngD (lo + c) c n
def smallB (i : Int) : Bool := decide (-(2 ^ 62) ≤ i ∧ i < 2 ^ 62)
/-- how many turns -/
def cntC (i j c : Int) : Nat := if 0 < c then ((j - i + c - 1) / c).toNat else ((i - j - c - 1) / (-c)).toNat
def rngOf : List D → M (List D)
  | [.int j] => grd (smallB j) (pure (rngD 0 1 j.toNat))
  | [.int i, .int j] => grd (smallB i && smallB j) (pure (rngD i 1 (j - i).toNat))
  | [.int i, .int j, .int c] => grd (smallB i && smallB j && (c == -1)) (pure (rngD i c (i - j).toNat))
  | _ => M.stk
/-- what a walk over d gives -/
def itemsD : D → M (List D)
  | .lst xs => pure xs
  | .tup xs => pure xs
  | .str s => pure (s.map fun c => .str [c])
  | _ => M.stk
def seqD : D → M (List D)
  | .lst xs => pure xs
  | .tup xs => pure xs
  | _ => M.stk
def zip2 : D → D → M (List D)
  | .lst xs, .lst ys => pure (zipD xs ys)
  | .tup xs, .tup ys => pure (zipD xs ys)
  | _, _ => M.stk
def notB : D → M D
  | .bl b => pure (.bl (!b))
  | _ => M.stk
def asB : D → M Bool
  | .bl b => pure b
  | _ => M.stk
def asI : D → M Int
  | .int i => pure i
  | _ => M.stk
mutual
def ev : Ex → List Sl → M D
  | .var i, ρ => opt (vget ρ i)
  | .con c, _ => conD c
  | .glo _ d, _ => pure d
  | .bin o a b, ρ => do binD o (← ev a ρ) (← ev b ρ)
  | .neg a, ρ => do pure (.int (-(← asI (← ev a ρ))))
  | .nt a, ρ => do pure (.bl (!(← asB (← ev a ρ))))
  | .cmp o a b, ρ => do pure (.bl (← cmpD o (← ev a ρ) (← ev b ρ)))
  | .cmp2 o o' a b c, ρ => do
    let x ← ev a ρ
    let y ← ev b ρ
    let k ← cmpD o x y
    if k = true then do pure (.bl (← cmpD o' y (← ev c ρ))) else pure (.bl false)
  | .and es, ρ => evAnd es ρ
  | .or es, ρ => evOr es ρ
  | .ite c a b, ρ => do
    let k ← asB (← ev c ρ)
    if k = true then ev a ρ else ev b ρ
  | .tup es, ρ => do
    let ds ← evs es ρ
    grd (decide (ds.length ≤ line)) (pure (.tup ds))
  | .lst es, ρ => do
    let ds ← evs es ρ
    grd (decide (ds.length ≤ line)) (pure (.lst ds))
  | .sub a i, ρ => do subD (← ev a ρ) (← ev i ρ)
  | .slc a lo hi, ρ => do
    let x ← ev a ρ
    let l ← evOp lo ρ
    let h ← evOp hi ρ
    slcD x l h
  | .rvs a, ρ => do
    match ← ev a ρ with
    | .str s => pure (.str s.reverse)
    | .lst xs => pure (.lst xs.reverse)
    | .tup xs => pure (.tup xs.reverse)
    | _ => M.stk
  | .call _ f es, ρ => do f (← evs es ρ)
  | .blt b es, ρ => do bltD b (← evs es ρ)
  | .met m a es, ρ => do
    let x ← ev a ρ
    grd (recOk m x) (do metD m x (← evs es ρ))
  | .isi a ts _, ρ => do
    let x ← ev a ρ
    grd (tyOk x) (grd (decide (ts.length ≤ line)) (pure (.bl (ts.any (isTy x)))))
  | .comp tg it c e own, ρ => do
    let ds ← evIt it ρ
    grd (decide (ds.length ≤ line)) (do
      pure (.lst (← compL (fun d => do
        let ρ' ← bindT tg d (wipeS ρ (own.map (·.2)))
        let k ← nox (evC c ρ')
        if k = true then do pure (some (← nox (ev e ρ'))) else pure none) ds)))
  | .dic t, _ => pure (if t = true then .dT [] [] else .dK [] [])
  | .ssc tg it c e own, ρ => do
    let ds ← evIt it ρ
    grd (decide (ds.length ≤ 4000)) (do
      let ks ← compL (fun d => do
        let ρ' ← bindT tg d (wipeS ρ (own.map (·.2)))
        let k ← nox (evC c ρ')
        if k = true then do
          let y ← nox (ev e ρ')
          let q ← opt (kyOf y)
          pure (some q) else pure none) ds
      grd (srtOk ((ks.foldl addK []).map Ky.d)) (pure (.lst (sortD ((ks.foldl addK []).map Ky.d)))))
  | .keyl i _, ρ => do
    match vget ρ i with
    | some (.dK ks _) => grd (decide (ks.length ≤ line)) (pure (.lst (ks.map Ky.d)))
    | _ => M.stk
  | .mxd a d, ρ => do
    match ← ev a ρ with
    | .lst xs => match intsOf xs with
      | some (n :: ns) => pure (.int (maxI n ns))
      | some [] => pure (.int d)
      | none => M.stk
    | _ => M.stk
def evs : Exs → List Sl → M (List D)
  | .nil, _ => pure []
  | .cons e es, ρ => do
    let d ← ev e ρ
    let ds ← evs es ρ
    pure (d :: ds)
def evAnd : Exs → List Sl → M D
  | .nil, _ => M.stk
  | .cons e es, ρ => do
    let d ← ev e ρ
    match es with
    | .nil => pure d
    | .cons _ _ => do
      let k ← asB d
      if k = true then evAnd es ρ else pure (.bl false)
def evOr : Exs → List Sl → M D
  | .nil, _ => M.stk
  | .cons e es, ρ => do
    let d ← ev e ρ
    match es with
    | .nil => pure d
    | .cons _ _ => do
      let k ← asB d
      if k = true then pure (.bl true) else evOr es ρ
def evOp : Op → List Sl → M (Option Int)
  | .no, _ => pure none
  | .so e, ρ => do pure (some (← asI (← ev e ρ)))
def evC : Op → List Sl → M Bool
  | .no, _ => pure true
  | .so e, ρ => do asB (← ev e ρ)
def evIt : It → List Sl → M (List D)
  | .of e, ρ => do itemsD (← ev e ρ)
  | .rng es, ρ => do rngOf (← evs es ρ)
  | .enu e, ρ => do pure (enumFrom' 0 (← itemsD (← ev e ρ)))
  | .zip a b, ρ => do
    let x ← ev a ρ
    let y ← ev b ρ
    zip2 x y
  | .rev e, ρ => do pure (← seqD (← ev e ρ)).reverse
end

/-! ### the slots that a term reads -/
mutual
def Tg.ws : Tg → List Nat
  | .nm i => [i]
  | .tp ts => ts.ws
def Tgs.ws : Tgs → List Nat
  | .nil => []
  | .cons t ts => t.ws ++ ts.ws
end
mutual
def Ex.vs : Ex → List Nat
  | .var i => [i]
  | .con _ | .glo _ _ | .dic _ => []
  | .bin _ a b | .cmp _ a b | .sub a b => a.vs ++ b.vs
  | .neg a | .nt a | .rvs a | .isi a _ _ => a.vs
  | .cmp2 _ _ a b c | .ite a b c => a.vs ++ (b.vs ++ c.vs)
  | .and es | .or es | .tup es | .lst es | .call _ _ es | .blt _ es => es.vs
  | .slc a lo hi => a.vs ++ (lo.vs ++ hi.vs)
  | .met _ a es => a.vs ++ es.vs
  | .comp _ it c e own | .ssc _ it c e own => it.vs ++ (c.vs ++ e.vs).filter fun i => !(own.map (·.2)).contains i
  | .keyl i _ => [i]
  | .mxd a _ => a.vs
def Exs.vs : Exs → List Nat
  | .nil => []
  | .cons e es => e.vs ++ es.vs
def Op.vs : Op → List Nat
  | .no => []
  | .so e => e.vs
def It.vs : It → List Nat
  | .of e | .enu e | .rev e => e.vs
  | .rng es => es.vs
  | .zip a b => a.vs ++ b.vs
end
/-- 1: a list or dict that the value is, is a new one; 2: those within, too -/
def Ex.fresh : Ex → Nat
  | .lst _ | .dic _ | .bin _ _ _ | .ssc _ _ _ _ _ | .keyl _ _ => 1
  | .comp _ _ _ e _ => if e.fresh = 0 then 1 else 2
  | .blt .list _ | .blt .sorted _ => 1
  | _ => 0

/-! ### statements -/
mutual
inductive St where
  | set (k : Nat) (i : Nat) (e : Ex)
  | unp (ts : Tgs) (e : Ex)
  | aug (i : Nat) (o : Operator) (e : Ex)
  | app (i : Nat) (e : Ex)
  | sti (i : Nat) (k e : Ex)
  | exp (e : Ex)
  | ret (e : Ex)
  | ife (c : Ex) (a b : Sts)
  | whl (c : Ex) (b : Sts)
  | for_ (tg : Tg) (it : It) (b : Sts)
  | apk (i : Nat) (k e : Ex)
  | stf (i : Nat) (k e : Ex)
  | st2 (i : Nat) (k j e : Ex)
  | brk
  | cnt
  | pas
inductive Sts where
  | nil
  | cons (s : St) (ss : Sts)
end
inductive Out where
  | nx (ρ : List Sl) | rt (d : D) | bk (ρ : List Sl) | ct (ρ : List Sl) | ex (e : Er) (ρ : List Sl)
/-- go on with what m tells; what it raises is an end at ρ -/
def lif {α : Type} (m : M α) (ρ : List Sl) (k : α → M Out) : M Out := fun g => match m g with
  | .ok a g' => k a g'
  | .err e g' => .ok (.ex e ρ) g'
  | .stuck => .stuck
@[simp] theorem lif_pure {α : Type} (a : α) (ρ : List Sl) (k : α → M Out) : lif (pure a) ρ k = k a := rfl
@[simp] theorem lif_stk {α : Type} (ρ : List Sl) (k : α → M Out) : lif (M.stk : M α) ρ k = M.stk := rfl
@[simp] theorem lif_thr {α : Type} (e : Er) (ρ : List Sl) (k : α → M Out) : lif (M.thr e : M α) ρ k = pure (.ex e ρ) := rfl
theorem lif_bind {α β : Type} (m : M α) (f : α → M β) (ρ : List Sl) (k : β → M Out) : lif (m >>= f) ρ k = lif m ρ fun a => lif (f a) ρ k := by
  funext g
  show (match M.bnd m f g with
    | .ok a g' => k a g'
    | .err e g' => .ok (.ex e ρ) g'
    | .stuck => .stuck) = _
  unfold lif M.bnd
  cases m g <;> rfl
/-- no slot among vs is owned -/
def noOwn (ρ : List Sl) (vs : List Nat) : Bool := vs.all fun i => match ρ[i]? with
  | some (.own _) | some (.ow2 _) => false
  | _ => true
def frz1 (ρ : List Sl) (i : Nat) : List Sl := match ρ[i]? with
  | some (.own d) | some (.ow2 d) => ρ.set i (.val d)
  | _ => ρ
def frz : List Sl → List Nat → List Sl
  | ρ, [] => ρ
  | ρ, v :: vs => frz (frz1 ρ v) vs
/-- the state in which what e gave may be kept -/
def shr (ρ : List Sl) (vs : List Nat) (p : Bool) : List Sl := if (noOwn ρ vs || p) = true then ρ else frz ρ vs
def fuel : Nat := 1000000
def whlL (c : List Sl → M Bool) (b : List Sl → M Out) : Nat → List Sl → M Out
  | 0, _ => M.stk
  | n + 1, ρ => lif (c ρ) ρ fun k =>
    if k = true then do
      match ← b ρ with
      | .nx ρ' | .ct ρ' => whlL c b n ρ'
      | .bk ρ' => pure (.nx ρ')
      | o => pure o
    else pure (.nx ρ)
def forL (b : D → List Sl → M Out) : List D → List Sl → M Out
  | [], ρ => pure (.nx ρ)
  | d :: ds, ρ => do
    match ← b d ρ with
    | .nx ρ' | .ct ρ' => forL b ds ρ'
    | .bk ρ' => pure (.nx ρ')
    | o => pure o
def It.isR : It → Bool
  | .rng _ => true
  | _ => false
/-- the slots that a walk locks -/
def It.lk : It → List Nat
  | .rng _ => []
  | it => it.vs
def appD (ρ : List Sl) (i : Nat) (d : D) : M Out := match ρ[i]? with
  | some (.own (.lst xs)) => grd (decide (xs.length < line)) (pure (.nx (ρ.set i (.own (.lst (xs ++ [d]))))))
  | _ => M.stk
def stiD (ρ : List Sl) (i : Nat) (q d : D) : M Out := match ρ[i]? with
  | some (.own (.lst xs)) => match q with
    | .int j => match ixN xs.length j with
      | some n => pure (.nx (ρ.set i (.own (.lst (xs.set n d)))))
      | none => M.stk
    | _ => M.stk
  | some (.own (.dK ks vs)) => match kyOf q with
    | some k => grd (decide (ks.length < line)) (pure (.nx (ρ.set i (.own (.dK (putA k d ks vs).1 (putA k d ks vs).2)))))
    | none => M.stk
  | some (.own (.dT ks vs)) => match kyT q with
    | some k => grd (decide (ks.length < line)) (pure (.nx (ρ.set i (.own (.dT (putA k d ks vs).1 (putA k d ks vs).2)))))
    | none => M.stk
  | _ => M.stk
def idxA {α : Type} [DecidableEq α] (k : α) : List α → Option Nat
  | [] => none
  | a :: as => if a = k then some 0 else (idxA k as).map (· + 1)
/-- the place of a child -/
def kidIx : D → D → Option Nat
  | .lst xs, .int j => ixN xs.length j
  | .dK ks _, q => (kyOf q).bind fun k => idxA k ks
  | _, _ => none
def D.setKid : D → Nat → D → D
  | .lst xs, n, x => .lst (xs.set n x)
  | .dK ks vs, n, x => .dK ks (vs.set n x)
  | d, _, _ => d
/-- a child is put in -/
def putKid : D → D → D → Option D
  | .lst xs, .int j, x => (ixN xs.length j).map fun n => .lst (xs.set n x)
  | .dK ks vs, q, x => (kyOf q).bind fun k => if memA k ks = true then none else some (.dK (ks ++ [k]) (vs ++ [x]))
  | _, _, _ => none
def apkD (ρ : List Sl) (i n : Nat) (ys : List D) (x : D) : M Out := match ρ[i]? with
  | some (.ow2 d) => grd (decide (ys.length < line)) (pure (.nx (ρ.set i (.ow2 (d.setKid n (.lst (ys ++ [x])))))))
  | _ => M.stk
def st2D (ρ : List Sl) (i n : Nat) (ys : List D) (q x : D) : M Out := match ρ[i]? with
  | some (.ow2 d) => match q with
    | .int j => match ixN ys.length j with
      | some m => pure (.nx (ρ.set i (.ow2 (d.setKid n (.lst (ys.set m x))))))
      | none => M.stk
    | _ => M.stk
  | _ => M.stk
/-- the list that is the child at the place q -/
def kidL (d q : D) (k : Nat → List D → M Out) : M Out := match kidIx d q with
  | some n => match d.kids[n]? with
    | some (.lst ys) => k n ys
    | _ => M.stk
  | none => M.stk
mutual
def exS : St → List Sl → M Out
  | .set 0 i e, ρ => lif (ev e ρ) ρ fun d => pure (.nx ((shr ρ e.vs d.pure).set i (.val d)))
  | .set 1 i e, ρ => lif (ev e ρ) ρ fun d => grd (decide (1 ≤ e.fresh) && (isCont d && D.pureL d.kids)) (pure (.nx (ρ.set i (.own d))))
  | .set (_ + 2) i e, ρ => lif (ev e ρ) ρ fun d => grd (decide (1 ≤ e.fresh) && (isCont d && (d.kids.isEmpty || (decide (2 ≤ e.fresh) && (d.kids.all isCont && d.kids.all fun x => D.pureL x.kids))))) (pure (.nx (ρ.set i (.ow2 d))))
  | .unp ts e, ρ => lif (ev e ρ) ρ fun d => do pure (.nx (← bindT (.tp ts) d (shr ρ e.vs d.pure)))
  | .aug i o e, ρ => lif (do
      let x ← opt (vget ρ i)
      let y ← ev e ρ
      grd (isScal x && isScal y) (binD o x y)) ρ fun z => pure (.nx (ρ.set i (.val z)))
  | .app i e, ρ => match ρ[i]? with
    | some (.own (.lst _)) => lif (ev e ρ) ρ fun d => appD (shr ρ e.vs d.pure) i d
    | _ => M.stk
  | .sti i k e, ρ => match ρ[i]? with
    | some (.own _) => lif (ev e ρ) ρ fun d => lif (ev k ρ) ρ fun q => stiD (shr ρ e.vs d.pure) i q d
    | _ => M.stk
  | .apk i k e, ρ => match ρ[i]? with
    | some (.ow2 d) => lif (ev k ρ) ρ fun q => kidL d q fun n ys => lif (ev e ρ) ρ fun x => apkD (shr ρ e.vs x.pure) i n ys x
    | _ => M.stk
  | .stf i k e, ρ => match ρ[i]? with
    | some (.ow2 d) => lif (ev e ρ) ρ fun x => lif (ev k ρ) ρ fun q => grd (decide (1 ≤ e.fresh) && (isCont x && (D.pureL x.kids && decide (d.kids.length < line)))) (match putKid d q x with
      | some d' => pure (.nx (ρ.set i (.ow2 d')))
      | none => M.stk)
    | _ => M.stk
  | .st2 i k j e, ρ => match ρ[i]? with
    | some (.ow2 d) => lif (ev e ρ) ρ fun x => lif (ev k ρ) ρ fun q => kidL d q fun n ys => lif (ev j ρ) ρ fun jj => st2D (shr ρ e.vs x.pure) i n ys jj x
    | _ => M.stk
  | .exp e, ρ => lif (ev e ρ) ρ fun _ => pure (.nx ρ)
  | .ret e, ρ => lif (ev e ρ) ρ fun d => pure (.rt d)
  | .ife c a b, ρ => lif (do asB (← ev c ρ)) ρ fun k => if k = true then exSs a ρ else exSs b ρ
  | .whl c b, ρ => whlL (fun ρ => do asB (← ev c ρ)) (fun ρ => exSs b ρ) fuel ρ
  | .for_ tg it b, ρ => lif (evIt it ρ) ρ fun ds => forL (fun d ρ => do exSs b (← bindT tg d ρ)) ds (frz ρ it.lk)
  | .brk, ρ => pure (.bk ρ)
  | .cnt, ρ => pure (.ct ρ)
  | .pas, ρ => pure (.nx ρ)
def exSs : Sts → List Sl → M Out
  | .nil, ρ => pure (.nx ρ)
  | .cons s ss, ρ => do
    match ← exS s ρ with
    | .nx ρ' => exSs ss ρ'
    | o => pure o
end
structure Fn where
  n : Nat
  m : Nat
  body : Sts
def run (f : Fn) : Sem := fun ds => if ds.length = f.n then do
    match ← exSs f.body (ds.map Sl.val ++ List.replicate (f.m - f.n) Sl.no) with
    | .rt d => pure d
    | .nx _ => pure .non
    | .ex e _ => M.thr e
    | _ => M.stk
  else M.stk
end TI
set_option Elab.async false
set_option linter.all false
set_option maxRecDepth 100000
set_option maxHeartbeats 4000000
/-! the operations are what the model does -/
namespace TI
open PySem PySem.Spec PyProof.Rows L2

structure Spc where
  r : Addr
  F : Addr → Prop
  At : G → Hp → Prop
  loc : ∀ {g : G} {H H' : Hp}, At g H → (∀ a o, F a → H a = some o → H' a = some o) → At g H'
  mu : ∀ {g : G} {H : Hp}, At g H → BOk F H

/-- neither raises nor changes the state -/
def Pr {α : Type} (m : M α) : Prop := ∀ g, (∃ a, m g = .ok a g) ∨ m g = .stuck
theorem Pr.pure {α : Type} {a : α} : Pr (pure a) := fun g => .inl ⟨a, rfl⟩
theorem Pr.ret {α : Type} {a : α} : Pr (Pure.pure a : M α) := fun g => .inl ⟨a, rfl⟩
theorem Pr.stk {α : Type} : Pr (M.stk : M α) := fun g => .inr rfl
theorem Pr.grd {α : Type} {c : Bool} {m : M α} (h : Pr m) : Pr (grd c m) := by
  unfold TI.grd
  split
  · exact h
  · exact .stk
theorem Pr.bind {α β : Type} {m : M α} {f : α → M β} (h : Pr m) (k : ∀ a, Pr (f a)) : Pr (m >>= f) := fun g => by
  show (∃ a, M.bnd m f g = _) ∨ M.bnd m f g = _
  rcases h g with ⟨a, e⟩ | e
  · simp only [M.bnd, e]; exact k a g
  · simp only [M.bnd, e]; exact .inr trivial
theorem Pr.opt {α : Type} {o : Option α} : Pr (opt o) := by
  cases o
  · exact .stk
  · exact .pure
theorem grd_ok {α : Type} {c : Bool} {m : M α} {g g' : G} {a : α} (h : grd c m g = .ok a g') : c = true ∧ m g = .ok a g' := by
  unfold grd at h
  split at h
  · exact ⟨by assumption, h⟩
  · cases h
theorem pure_ok {α : Type} {g g' : G} {a b : α} (h : (pure a : M α) g = .ok b g') : a = b ∧ g = g' := by
  have h : Res.ok a g = Res.ok b g' := h
  cases h; exact ⟨rfl, rfl⟩
theorem stk_ok {α : Type} {g g' : G} {b : α} (h : (M.stk : M α) g = .ok b g') : False := by
  have h : (Res.stuck : Res α) = Res.ok b g' := h
  cases h
theorem bind_ok {α β : Type} {m : M α} {f : α → M β} {g g' : G} {b : β} (h : (m >>= f) g = .ok b g') : ∃ a g1, m g = .ok a g1 ∧ f a g1 = .ok b g' := by
  have h : M.bnd m f g = .ok b g' := h
  unfold M.bnd at h
  cases e : m g with
  | ok a g1 => rw [e] at h; exact ⟨a, g1, rfl, h⟩
  | err _ _ => rw [e] at h; cases h
  | stuck => rw [e] at h; cases h
theorem opt_ok {α : Type} {o : Option α} {g g' : G} {b : α} (h : opt o g = .ok b g') : o = some b ∧ g = g' := by
  cases o with
  | none => exact (stk_ok (g := g) h).elim
  | some a => obtain ⟨rfl, e⟩ := pure_ok h; exact ⟨rfl, e⟩

/-! ### equality -/
mutual
theorem eqv_py : ∀ (a b : D), a.flat = true → b.flat = true → PyData.eqv a.py b.py = eqB a b
  | .non, b, _, hb => by cases b <;> first | rfl | (simp [D.flat] at hb; done)
  | .bl _, b, _, hb => by cases b <;> first | rfl | (simp [D.flat] at hb; done)
  | .int _, b, _, hb => by cases b <;> first | rfl | (simp [D.flat] at hb; done)
  | .str x, b, _, hb => by
    cases b with
    | str y =>
      show (S x == S y) = (x == y)
      by_cases e : x = y
      · subst e; simp
      · have : ¬ S x = S y := fun q => e (S_inj q)
        rw [beq_eq_false_iff_ne.mpr this, beq_eq_false_iff_ne.mpr e]
    | _ => first | rfl | (simp [D.flat] at hb; done)
  | .lst xs, b, ha, hb => by
    cases b with
    | lst ys => exact eqv_pyL xs ys (by simpa [D.flat] using ha) (by simpa [D.flat] using hb)
    | _ => first | rfl | (simp [D.flat] at hb; done)
  | .tup xs, b, ha, hb => by
    cases b with
    | tup ys => exact eqv_pyL xs ys (by simpa [D.flat] using ha) (by simpa [D.flat] using hb)
    | _ => first | rfl | (simp [D.flat] at hb; done)
  | .dK _ _, _, h, _ => by simp [D.flat] at h
  | .dT _ _, _, h, _ => by simp [D.flat] at h
  | .wel, _, h, _ => by simp [D.flat] at h
theorem eqv_pyL : ∀ (as bs : List D), D.flatL as = true → D.flatL bs = true → PyData.eqvAll (D.pyL as) (D.pyL bs) = eqL as bs
  | [], [], _, _ => rfl
  | [], _ :: _, _, _ => rfl
  | _ :: _, [], _, _ => rfl
  | a :: as, b :: bs, ha, hb => by
    simp only [D.flatL, Bool.and_eq_true] at ha hb
    simp only [D.pyL, PyData.eqvAll, eqL]
    rw [eqv_py a b ha.1 hb.1, eqv_pyL as bs ha.2 hb.2]
end
mutual
theorem plain_py : ∀ (a : D), a.flat = true → a.py.plain = true
  | .non, _ => rfl
  | .bl _, _ => rfl
  | .int _, _ => rfl
  | .str _, _ => rfl
  | .lst xs, h => by simp only [D.py, PyData.plain]; exact plain_pyL xs (by simpa [D.flat] using h)
  | .tup xs, h => by simp only [D.py, PyData.plain]; exact plain_pyL xs (by simpa [D.flat] using h)
  | .dK _ _, h => by simp [D.flat] at h
  | .dT _ _, h => by simp [D.flat] at h
  | .wel, h => by simp [D.flat] at h
theorem plain_pyL : ∀ (as : List D), D.flatL as = true → PyData.plainAll (D.pyL as) = true
  | [], _ => rfl
  | a :: as, h => by
    simp only [D.flatL, Bool.and_eq_true] at h
    simp only [D.pyL, PyData.plainAll, plain_py a h.1, plain_pyL as h.2, Bool.and_self]
end
mutual
theorem dep_py : ∀ (a : D), a.flat = true → a.py.depth = a.dep
  | .non, _ => rfl
  | .bl _, _ => rfl
  | .int _, _ => rfl
  | .str _, _ => rfl
  | .lst xs, h => by simp only [D.py, PyData.depth, D.dep]; rw [dep_pyL xs (by simpa [D.flat] using h)]
  | .tup xs, h => by simp only [D.py, PyData.depth, D.dep]; rw [dep_pyL xs (by simpa [D.flat] using h)]
  | .dK _ _, h => by simp [D.flat] at h
  | .dT _ _, h => by simp [D.flat] at h
  | .wel, h => by simp [D.flat] at h
theorem dep_pyL : ∀ (as : List D), D.flatL as = true → PyData.depthAll (D.pyL as) = D.depL as
  | [], _ => rfl
  | a :: as, h => by
    simp only [D.flatL, Bool.and_eq_true] at h
    simp only [D.pyL, PyData.depthAll, D.depL, dep_py a h.1, dep_pyL as h.2]
end
section
variable {K : PySem.W.Frag} {r : Addr} {H : Hp} {B : Addr → Prop}
mutual
theorem Den.dp : ∀ (d : D) (v : V), d.flat = true → Den K r H B v d → Dp K H v d.py
  | .non, _, _, h => by cases h; exact .non
  | .bl _, _, _, h => by cases h; exact .bl _
  | .int _, _, _, h => by cases h; exact .int _
  | .str _, _, _, h => by cases h; exact .str _
  | .lst ds, _, p, h => by
    cases h with
    | lst h1 _ h2 => exact .lst (SqL.of h1) (DenL.dp ds _ (by simpa [D.flat] using p) h2)
  | .tup ds, _, p, h => by
    cases h with
    | tup h1 h2 => exact .tup (SqT.of h1) (DenL.dp ds _ (by simpa [D.flat] using p) h2)
  | .dK _ _, _, p, _ => by simp [D.flat] at p
  | .dT _ _, _, p, _ => by simp [D.flat] at p
  | .wel, _, p, _ => by simp [D.flat] at p
theorem DenL.dp : ∀ (ds : List D) (vs : List V), D.flatL ds = true → DenL K r H B vs ds → DpAll K H vs (D.pyL ds)
  | [], _, _, h => by cases h; exact .nil
  | d :: ds, _, p, h => by
    simp only [D.flatL, Bool.and_eq_true] at p
    cases h with
    | cons h1 h2 => exact .cons (Den.dp d _ p.1 h1) (DenL.dp ds _ p.2 h2)
end
end
theorem cmpOk_iff {d : D} (h : d.cmpOk = true) : d.flat = true ∧ d.dep ≤ 60 := by
  unfold D.cmpOk at h
  simpa using h

/-- by values: a test of two -/
def rT2 (K : PySem.W.Frag) (Z : Spc) (f : D → D → M Bool) : R2 := fun x y H Q => ∃ B d1 d2 b g, Den K Z.r H B x d1 ∧ Den K Z.r H B y d2 ∧ f d1 d2 g = .ok b g ∧ Q (.bl b) H
/-- by values: an operation of two -/
def rV2 (K : PySem.W.Frag) (Z : Spc) (f : D → D → M D) : R2 := fun x y H Q => ∃ B d1 d2 d g, Den K Z.r H B x d1 ∧ Den K Z.r H B y d2 ∧ BOk B H ∧ f d1 d2 g = .ok d g ∧ ∀ v H', Same H H' → Den K Z.r H' B v d → Q v H'
/-- .. a list that it gives is a new one -/
def rV2f (K : PySem.W.Frag) (Z : Spc) (f : D → D → M D) : R2 := fun x y H Q => ∃ B d1 d2 d g, Den K Z.r H B x d1 ∧ Den K Z.r H B y d2 ∧ BOk B H ∧ f d1 d2 g = .ok d g ∧ ∀ v H', Same H H' → Den K Z.r H' B v d → (isCont d = true → ∃ p, v = .ref p ∧ H p = none) → Q v H'
theorem same_upd {H : Hp} {p : Addr} {o : HO} (h : H p = none) : Same H (upd H p o) := fun b x e => by
  rw [upd_ne (ne_of_none e h)]
  exact e
theorem sameFr {H H' : Hp} {B : Addr → Prop} (h : Same H H') : Fr B H H' := fun a o e _ => h a o e

section
variable {X : Cx} {Z : Spc}
theorem eq_run {pins : List (Addr × Obj)} {s : Shared} {σ : L2.St} {H : Hp} {B : Addr → Prop} {x y : V} {v u : Value} {a b : D} {Q : Value → Shared → Prop} {E : Value → Shared → Prop} (hu : X.A.units + 64 < cLine) (I : Inv X pins σ H s) (rx : RelV x v) (ry : RelV y u)
    (ha : Den X.K Z.r H B x a) (hb : Den X.K Z.r H B y b) (oa : a.cmpOk = true) (ob : b.cmpOk = true) (q : Q (.bool (eqB a b)) s) : wpAny (model X.prog X.w) X.A (compareOp .Eq v u) Q E s := by
  obtain ⟨f1, p1⟩ := cmpOk_iff oa
  obtain ⟨f2, p2⟩ := cmpOk_iff ob
  obtain ⟨as, r1⟩ := Dp.reads I _ x v (Den.dp a x f1 ha) rx
  obtain ⟨bs, r2⟩ := Dp.reads I _ y u (Den.dp b y f2 hb) ry
  refine SeqAt.eq_plain (da := a.py) (db := b.py) (as := as) (bs := bs) r1 r2 (plain_py a f1) (plain_py b f2) ?_ ?_
  · rw [dep_py a f1]
    have := Nat.min_le_left a.dep b.py.depth
    omega
  · rw [eqv_py a b f1 f2]; exact q
end
end TI
set_option Elab.async false
set_option linter.all false
set_option maxRecDepth 100000
set_option maxHeartbeats 4000000
namespace TI
open PySem PySem.Spec PyProof.Rows L2
theorem str_eq {x : Str} {s : List Nat} (h : x = S s) : x.cps.toList = s := by rw [h, S_cps]
theorem cutS_cut (s : List Nat) (lo hi : Option Int) : cutS (S s) lo hi = S (cutL s lo hi) := by
  unfold cutS cutL S
  simp [Str.length]
theorem cutV_eq (xs : List V) (lo hi : Option Int) : cutV xs lo hi = cutL xs lo hi := rfl
theorem DenL.cut {K : PySem.W.Frag} {r : Addr} {H : Hp} {B : Addr → Prop} {vs : List V} {ds : List D} (h : DenL K r H B vs ds) (lo hi : Option Int) : DenL K r H B (cutL vs lo hi) (cutL ds lo hi) := by
  unfold cutL
  rw [h.length]
  exact (h.drop _).take _
theorem atI_den {K : PySem.W.Frag} {r : Addr} {H : Hp} {B : Addr → Prop} {vs : List V} {ds : List D} (h : DenL K r H B vs ds) {i : Int} {d : D} (e : atI ds i = some d) : ∃ v, atI vs i = some v ∧ Den K r H B v d := by
  unfold atI at e ⊢
  rw [h.length]
  cases q : ixN ds.length i with
  | none => rw [q] at e; cases e
  | some j =>
    rw [q] at e
    exact h.get e
theorem sqT_tup {K : PySem.W.Frag} {r : Addr} {H : Hp} {B : Addr → Prop} {v : V} {ds : List D} (h : Den K r H B v (.tup ds)) : ∃ a vs, v = .ref a ∧ H a = some (.tup vs) ∧ DenL K r H B vs ds := by
  cases h with
  | tup h1 h2 => exact ⟨_, _, rfl, h1, h2⟩
theorem lst_of {K : PySem.W.Frag} {r : Addr} {H : Hp} {B : Addr → Prop} {v : V} {ds : List D} (h : Den K r H B v (.lst ds)) : ∃ a vs, v = .ref a ∧ H a = some (.lst vs) ∧ ¬ B a ∧ DenL K r H B vs ds := by
  cases h with
  | lst h1 n h2 => exact ⟨_, _, rfl, h1, n, h2⟩
/-- a new tuple, a new list -/
theorem den_newT {K : PySem.W.Frag} {r : Addr} {H : Hp} {B : Addr → Prop} {p : Addr} {vs : List V} {ds : List D} (bk : BOk B H) (np : H p = none) (h : DenL K r H B vs ds) : Den K r (upd H p (.tup vs)) B (.ref p) (.tup ds) :=
  .tup upd_same (DenL.fr (sameFr (same_upd np)) bk _ _ h)
theorem not_B {H : Hp} {B : Addr → Prop} {p : Addr} (bk : BOk B H) (np : H p = none) : ¬ B p := fun b => by
  obtain ⟨o, e, _⟩ := bk p b
  rw [np] at e; cases e
theorem den_newL {K : PySem.W.Frag} {r : Addr} {H : Hp} {B : Addr → Prop} {p : Addr} {vs : List V} {ds : List D} (bk : BOk B H) (np : H p = none) (h : DenL K r H B vs ds) : Den K r (upd H p (.lst vs)) B (.ref p) (.lst ds) :=
  .lst upd_same (not_B bk np) (DenL.fr (sameFr (same_upd np)) bk _ _ h)

section
variable {X : Cx} {Z : Spc}
theorem opr_bin (o : Operator) : OpR X (binaryOp o) (rV2f X.K Z (binD o)) := by
  intro pins s σ H x y v u Q I rx ry h
  obtain ⟨B, d1, d2, d, g, h1, h2, bk, e, q⟩ := h
  unfold binD at e
  split at e
  case h_1 i j =>
    cases h1; cases h2
    obtain ⟨rfl, _⟩ := pure_ok e
    exact op_add pins s σ H _ _ v u Q I rx ry ⟨_, _, rfl, rfl, q _ _ (Same.refl H) (.int _) nofun⟩
  case h_2 a b =>
    cases h1; cases h2
    obtain ⟨c, e⟩ := grd_ok e
    obtain ⟨rfl, _⟩ := pure_ok e
    have c := of_decide_eq_true c
    rw [line_eq] at c
    exact op_add_str pins s σ H _ _ v u Q I rx ry ⟨_, _, rfl, rfl, by rw [S_len, S_len]; exact c, q _ _ (Same.refl H) (by rw [S_app]; exact .str _) nofun⟩
  case h_3 xs ys =>
    obtain ⟨a, vs, rfl, e1, n1, l1⟩ := lst_of h1
    obtain ⟨b, ws, rfl, e2, n2, l2⟩ := lst_of h2
    obtain ⟨c, e⟩ := grd_ok e
    obtain ⟨rfl, _⟩ := pure_ok e
    have c := of_decide_eq_true c
    rw [line_eq] at c
    exact op_cat pins s σ H _ _ v u Q I rx ry ⟨_, _, _, _, rfl, rfl, e1, e2, by rw [l1.length, l2.length]; exact c, fun p np => q _ _ (same_upd np) (den_newL bk np (l1.append l2)) fun _ => ⟨p, rfl, np⟩⟩
  case h_4 xs ys =>
    obtain ⟨a, vs, rfl, e1, l1⟩ := sqT_tup h1
    obtain ⟨b, ws, rfl, e2, l2⟩ := sqT_tup h2
    obtain ⟨c, e⟩ := grd_ok e
    obtain ⟨rfl, _⟩ := pure_ok e
    have c := of_decide_eq_true c
    rw [line_eq] at c
    refine op_catA pins s σ H _ _ v u Q I rx ry ⟨_, _, _, _, rfl, rfl, SqT.of e1, SqT.of e2, by rw [l1.length, l2.length]; exact c, fun z => ?_, fun _ z => ?_, fun _ _ p np => ?_⟩
    · subst z
      cases l1
      exact q _ _ (Same.refl H) (.tup e2 l2) nofun
    · subst z
      cases l2
      rw [List.append_nil] at q
      exact q _ _ (Same.refl H) (.tup e1 l1) nofun
    · exact q _ _ (same_upd np) (den_newT bk np (l1.append l2)) nofun
  case h_5 i j =>
    cases h1; cases h2
    obtain ⟨rfl, _⟩ := pure_ok e
    exact op_sub pins s σ H _ _ v u Q I rx ry ⟨_, _, rfl, rfl, q _ _ (Same.refl H) (.int _) nofun⟩
  case h_6 i j =>
    cases h1; cases h2
    obtain ⟨c, e⟩ := grd_ok e
    obtain ⟨rfl, _⟩ := pure_ok e
    unfold cmulB at c
    rw [Bool.or_eq_true, decide_eq_true_eq, decide_eq_true_eq] at c
    exact op_mul pins s σ H _ _ v u Q I rx ry ⟨_, _, rfl, rfl, c, q _ _ (Same.refl H) (.int _) nofun⟩
  case h_7 xs k =>
    obtain ⟨a, vs, rfl, e1, n1, l1⟩ := lst_of h1
    cases h2
    obtain ⟨c, e⟩ := grd_ok e
    obtain ⟨rfl, _⟩ := pure_ok e
    have c := of_decide_eq_true c
    rw [line_eq] at c
    exact op_rep pins s σ H _ _ v u Q I rx ry ⟨_, _, _, rfl, rfl, e1, c.1, c.2.1, by rw [l1.length]; exact c.2.2, fun p np => q _ _ (same_upd np) (den_newL bk np (l1.rep _)) fun _ => ⟨p, rfl, np⟩⟩
  case h_8 i j =>
    cases h1; cases h2
    obtain ⟨c, e⟩ := grd_ok e
    obtain ⟨rfl, _⟩ := pure_ok e
    exact op_fdiv pins s σ H _ _ v u Q I rx ry ⟨_, _, rfl, rfl, (by simpa using c : _ ∧ _), q _ _ (Same.refl H) (.int _) nofun⟩
  case h_9 i j =>
    cases h1; cases h2
    obtain ⟨c, e⟩ := grd_ok e
    obtain ⟨rfl, _⟩ := pure_ok e
    exact op_mod pins s σ H _ _ v u Q I rx ry ⟨_, _, rfl, rfl, of_decide_eq_true c, q _ _ (Same.refl H) (.int _) nofun⟩
  case h_10 i j =>
    cases h1; cases h2
    obtain ⟨c, e⟩ := grd_ok e
    obtain ⟨rfl, _⟩ := pure_ok e
    exact op_pow pins s σ H _ _ v u Q I rx ry ⟨_, _, rfl, rfl, (show CPow i j from by unfold cpowB at c; unfold CPow; exact of_decide_eq_true c), q _ _ (Same.refl H) (.int _) nofun⟩
  case h_11 i j =>
    cases h1; cases h2
    obtain ⟨c, e⟩ := grd_ok e
    obtain ⟨rfl, _⟩ := pure_ok e
    exact op_shr pins s σ H _ _ v u Q I rx ry ⟨_, _, rfl, rfl, of_decide_eq_true c, q _ _ (Same.refl H) (.int _) nofun⟩
  case h_12 i j =>
    cases h1; cases h2
    obtain ⟨rfl, _⟩ := pure_ok e
    exact op_xor pins s σ H _ _ v u Q I rx ry ⟨_, _, rfl, rfl, q _ _ (Same.refl H) (.int _) nofun⟩
  case h_13 => exact (stk_ok e).elim

/-! ### in -/
theorem hasSub_iff (b : List Nat) : ∀ a : List Nat, hasSub b a = true ↔ ∃ i, i ≤ a.length ∧ b.isPrefixOf (a.drop i) = true
  | [] => by
    unfold hasSub
    constructor
    · intro h
      refine ⟨0, Nat.le_refl _, ?_⟩
      cases b <;> simp_all
    · rintro ⟨i, hi, h⟩
      cases b with
      | nil => rfl
      | cons x xs => simp at h
  | c :: a => by
    unfold hasSub
    rw [Bool.or_eq_true, hasSub_iff b a]
    constructor
    · rintro (h | ⟨i, hi, h⟩)
      · exact ⟨0, Nat.zero_le _, h⟩
      · exact ⟨i + 1, by simpa using hi, by simpa using h⟩
    · rintro ⟨i, hi, h⟩
      cases i with
      | zero => exact .inl h
      | succ i => exact .inr ⟨i, by simpa using hi, by simpa using h⟩
theorem pre_take (y : List Nat) : ∀ l : List Nat, (l.take y.length == y) = y.isPrefixOf l := fun l => by
  rw [Bool.eq_iff_iff, beq_iff_eq, List.isPrefixOf_iff_prefix, List.prefix_iff_eq_take]
  exact eq_comm
theorem subAt_iff (x y : Str) (i : Nat) : Builtin.Str.subAt x y i = y.cps.toList.isPrefixOf (x.cps.toList.drop i) := by
  rw [PySem.StrLaws.subAt_eq, ← pre_take]
  rfl
theorem in_S (s t : List Nat) : (!(Builtin.Str.occurrences (S t) (S s) 0 (S t).length 1).isEmpty) = hasSub s t := by
  rw [Bool.eq_iff_iff, PySem.StrLaws.found_iff, hasSub_iff]
  constructor
  · rintro ⟨i, h, e⟩
    rw [subAt_iff, S_cps, S_cps] at e
    rw [S_len, S_len] at h
    exact ⟨i, by omega, e⟩
  · rintro ⟨i, h, e⟩
    refine ⟨i, ?_, by rw [subAt_iff, S_cps, S_cps]; exact e⟩
    rw [S_len, S_len]
    have := (List.isPrefixOf_iff_prefix.mp e).length_le
    rw [List.length_drop] at this
    omega
theorem ltS_lt : ∀ a b : List Nat, ltS a b = decide (a < b)
  | [], [] => by simp [ltS]
  | [], _ :: _ => by simp [ltS]
  | _ :: _, [] => by simp [ltS]
  | x :: xs, y :: ys => by
    simp only [ltS]
    by_cases e : x = y
    · subst e
      rw [if_pos rfl, ltS_lt xs ys]
      simp [List.cons_lt_cons_iff]
    · rw [if_neg e]
      simp [List.cons_lt_cons_iff, e]

/-! ### dicts by trees -/
theorem kyOf_den {K : PySem.W.Frag} {r : Addr} {H : Hp} {B : Addr → Prop} {v : V} {d : D} {k : Ky} (h : Den K r H B v d) (e : kyOf d = some k) : v = kV k.k := by
  unfold kyOf at e
  split at e
  · cases h; cases e; rfl
  · cases h; cases e; rfl
  · cases e
theorem kyL_den {K : PySem.W.Frag} {r : Addr} {H : Hp} {B : Addr → Prop} : ∀ {vs : List V} {ds : List D} {ks : List Ky}, DenL K r H B vs ds → kyL ds = some ks → vs = (ks.map Ky.k).map kV
  | _, [], _, h, e => by cases h; cases e; rfl
  | _, d :: ds, ks, h, e => by
    cases h with
    | cons h1 h2 =>
      simp only [kyL] at e
      split at e
      · rename_i k ks' e1 e2
        cases e
        rw [kyOf_den h1 e1, kyL_den h2 e2]
        rfl
      · cases e
theorem kyT_den {K : PySem.W.Frag} {r : Addr} {H : Hp} {B : Addr → Prop} {v : V} {d : D} {k : List Ky} (h : Den K r H B v d) (e : kyT d = some k) : ∃ a, v = .ref a ∧ H a = some (.tup ((k.map Ky.k).map kV)) := by
  unfold kyT at e
  split at e
  · obtain ⟨a, vs, rfl, h1, h2⟩ := sqT_tup h
    rw [kyL_den h2 e] at h1
    exact ⟨a, rfl, h1⟩
  · cases e
theorem map_k_inj : ∀ {a b : List Ky}, a.map Ky.k = b.map Ky.k → a = b
  | [], [], _ => rfl
  | [], _ :: _, h => by simp at h
  | _ :: _, [], h => by simp at h
  | x :: xs, y :: ys, h => by
    simp only [List.map_cons, List.cons.injEq] at h
    rw [Ky.k_inj h.1, map_k_inj h.2]
section
variable {K : PySem.W.Frag} {r : Addr} {H : Hp} {B : Addr → Prop} {κ α : Type} [DecidableEq κ] [DecidableEq α] {f : α → κ} (inj : ∀ {a b : α}, f a = f b → a = b)
include inj
theorem lookA_den {k : α} : ∀ {kvs : List (κ × V)} {ks : List α} {ds : List D}, kvs.map (·.1) = ks.map f → DenL K r H B (kvs.map (·.2)) ds →
    match lookA k ks ds with
    | some d => ∃ v, valV kvs (f k) = some v ∧ Den K r H B v d
    | none => valV kvs (f k) = none
  | [], [], _, _, h => by cases h; exact valV_nil
  | [], _ :: _, _, e, _ => by simp at e
  | _ :: _, [], _, e, _ => by simp at e
  | kv :: kvs, a :: ks, [], _, h => by cases h
  | kv :: kvs, a :: ks, d :: ds, e, h => by
    simp only [List.map_cons, List.cons.injEq] at e
    cases h with
    | cons h1 h2 =>
      simp only [lookA]
      by_cases q : a = k
      · subst q
        rw [if_pos rfl]
        exact ⟨kv.2, valV_pos e.1, h1⟩
      · rw [if_neg q]
        have ih := lookA_den (k := k) e.2 h2
        have ne : ¬ kv.1 = f k := fun z => q (inj (e.1.symm.trans z))
        rw [valV_neg ne]
        exact ih
theorem in_den {k : α} : ∀ {kvs : List (κ × V)} {ks : List α}, kvs.map (·.1) = ks.map f → (valV kvs (f k)).isSome = memA k ks
  | [], [], _ => rfl
  | [], _ :: _, e => by simp at e
  | _ :: _, [], e => by simp at e
  | kv :: kvs, a :: ks, e => by
    simp only [List.map_cons, List.cons.injEq] at e
    unfold memA
    rw [List.any_cons]
    by_cases q : a = k
    · subst q
      rw [valV_pos e.1, decide_eq_true rfl]
      rfl
    · have ne : ¬ kv.1 = f k := fun z => q (inj (e.1.symm.trans z))
      rw [valV_neg ne, decide_eq_false q, Bool.false_or]
      exact in_den e.2
end

/-- isinstance, in: what is asked -/
theorem dget_K {K : PySem.W.Frag} {r : Addr} {H : Hp} {B : Addr → Prop} {v w : V} {ks : List Ky} {ds : List D} {d : D} {k : Ky} (h : Den K r H B v (.dK ks ds)) (hd : Den K r H B w d) (e : kyOf d = some k) : ∃ a o, v = .ref a ∧ DGet H a w o ∧ o.isSome = memA k ks ∧
    match lookA k ks ds with
    | some d => ∃ v, o = some v ∧ Den K r H B v d
    | none => o = none := by
  cases h with
  | dK h1 n e1 l =>
    rw [kyOf_den hd e]
    exact ⟨_, _, rfl, DGet.k h1, in_den (f := Ky.k) Ky.k_inj e1, lookA_den (f := Ky.k) Ky.k_inj e1 l⟩

theorem dget_T {K : PySem.W.Frag} {r : Addr} {H : Hp} {B : Addr → Prop} {v w : V} {ks : List (List Ky)} {ds : List D} {d : D} {k : List Ky} (h : Den K r H B v (.dT ks ds)) (hd : Den K r H B w d) (e : kyT d = some k) : ∃ a o, v = .ref a ∧ DGet H a w o ∧ o.isSome = memA k ks ∧
    match lookA k ks ds with
    | some d => ∃ v, o = some v ∧ Den K r H B v d
    | none => o = none := by
  cases h with
  | dT h1 n e1 l =>
    obtain ⟨a, rfl, ha⟩ := kyT_den hd e
    exact ⟨_, _, rfl, DGet.t h1 ha, in_den (f := fun k : List Ky => k.map Ky.k) map_k_inj e1, lookA_den (f := fun k : List Ky => k.map Ky.k) map_k_inj e1 l⟩

/-! ### comparisons -/
theorem reads_of {pins : List (Addr × Obj)} {s : Shared} {σ : L2.St} {H : Hp} {B : Addr → Prop} {x : V} {v : Value} {a : D} (I : Inv X pins σ H s) (rx : RelV x v) (ha : Den X.K Z.r H B x a) (f : a.flat = true) : ∃ as, Reads s.heap v a.py as :=
  Dp.reads I _ x v (Den.dp a x f ha) rx
theorem any_py (d : D) (f : d.flat = true) : ∀ xs : List D, D.flatL xs = true → (D.pyL xs).any (fun y => PyData.eqv y d.py) = xs.any fun z => eqB z d
  | [], _ => rfl
  | x :: xs, h => by
    simp only [D.flatL, Bool.and_eq_true] at h
    simp only [D.pyL, List.any_cons]
    rw [eqv_py x d h.1 f, any_py d f xs h.2]
theorem in_run {pins : List (Addr × Obj)} {s : Shared} {σ : L2.St} {H : Hp} {B : Addr → Prop} {x y : V} {v u : Value} {a b : D} {k : Bool} {g g' : G} {Q : Value → Shared → Prop} {E : Value → Shared → Prop} (hu : X.A.units + 200 < cLine) (I : Inv X pins σ H s) (rx : RelV x v) (ry : RelV y u)
    (ha : Den X.K Z.r H B x a) (hb : Den X.K Z.r H B y b) (e : inD a b g = .ok k g') (q : ∀ s', Inv X pins σ H s' → Q (.bool k) s') :
    wpAny (model X.prog X.w) X.A (compareOp .In v u) Q E s := by
  unfold inD at e
  split at e
  · rename_i t
    split at e
    · rename_i s'
      obtain ⟨rfl, _⟩ := pure_ok e
      cases ha; cases hb
      obtain ⟨t1, rfl⟩ := rx
      obtain ⟨t2, rfl⟩ := ry
      refine in_str ?_
      rw [in_S]
      exact q _ I
    · exact (stk_ok e).elim
  · rename_i xs
    obtain ⟨c, e⟩ := grd_ok e
    obtain ⟨rfl, _⟩ := pure_ok e
    rw [Bool.and_eq_true] at c
    obtain ⟨f1, p1⟩ := cmpOk_iff c.1
    obtain ⟨f2, p2⟩ := cmpOk_iff c.2
    obtain ⟨as, r1⟩ := reads_of (Z := Z) I rx ha f1
    obtain ⟨bs, r2⟩ := reads_of (Z := Z) I ry hb f2
    have f3 : D.flatL xs = true := by simpa [D.flat] using f2
    refine SeqAt.in_list_data (xs := D.pyL xs) (d := a.py) r2 r1 (plain_pyL xs f3) (plain_py a f1) ?_ ?_
    · rw [dep_py a f1]
      have := Nat.min_le_right (PyData.depthAll (D.pyL xs)) a.dep
      omega
    · rw [any_py a f1 xs f3]; exact q _ I
  · rename_i xs
    obtain ⟨c, e⟩ := grd_ok e
    obtain ⟨rfl, _⟩ := pure_ok e
    rw [Bool.and_eq_true] at c
    obtain ⟨f1, p1⟩ := cmpOk_iff c.1
    obtain ⟨f2, p2⟩ := cmpOk_iff c.2
    obtain ⟨as, r1⟩ := reads_of (Z := Z) I rx ha f1
    obtain ⟨bs, r2⟩ := reads_of (Z := Z) I ry hb f2
    have f3 : D.flatL xs = true := by simpa [D.flat] using f2
    refine SeqAt.in_tuple_data (xs := D.pyL xs) (d := a.py) r2 r1 (plain_pyL xs f3) (plain_py a f1) ?_ ?_
    · rw [dep_py a f1]
      have := Nat.min_le_right (PyData.depthAll (D.pyL xs)) a.dep
      omega
    · rw [any_py a f1 xs f3]; exact q _ I
  · cases hk : kyOf a with
    | none => simp only [hk] at e; exact (stk_ok e).elim
    | some k =>
      simp only [hk] at e
      obtain ⟨rfl, _⟩ := pure_ok e
      obtain ⟨p, o, rfl, g1, g2, _⟩ := dget_K hb ha hk
      obtain rfl : u = Value.ref p := ry
      refine d_in (by omega) I g1 rx fun s' I' => ?_
      rw [g2]; exact q _ I'
  · cases hk : kyT a with
    | none => simp only [hk] at e; exact (stk_ok e).elim
    | some k =>
      simp only [hk] at e
      obtain ⟨rfl, _⟩ := pure_ok e
      obtain ⟨p, o, rfl, g1, g2, _⟩ := dget_T hb ha hk
      obtain rfl : u = Value.ref p := ry
      refine d_in (by omega) I g1 rx fun s' I' => ?_
      rw [g2]; exact q _ I'
  · exact (stk_ok e).elim
theorem notIn_run {pins : List (Addr × Obj)} {s : Shared} {σ : L2.St} {H : Hp} {B : Addr → Prop} {x y : V} {v u : Value} {a b : D} {k : Bool} {g g' : G} {Q : Value → Shared → Prop} {E : Value → Shared → Prop} (hu : X.A.units + 200 < cLine) (I : Inv X pins σ H s) (rx : RelV x v) (ry : RelV y u)
    (ha : Den X.K Z.r H B x a) (hb : Den X.K Z.r H B y b) (e : inD a b g = .ok k g') (q : ∀ s', Inv X pins σ H s' → Q (.bool (!k)) s') :
    wpAny (model X.prog X.w) X.A (compareOp .NotIn v u) Q E s := by
  unfold inD at e
  split at e
  · rename_i t
    split at e
    · rename_i s'
      obtain ⟨rfl, _⟩ := pure_ok e
      cases ha; cases hb
      obtain ⟨t1, rfl⟩ := rx
      obtain ⟨t2, rfl⟩ := ry
      refine notIn_str ?_
      rw [in_S]
      exact q _ I
    · exact (stk_ok e).elim
  · rename_i xs
    obtain ⟨c, e⟩ := grd_ok e
    obtain ⟨rfl, _⟩ := pure_ok e
    rw [Bool.and_eq_true] at c
    obtain ⟨f1, p1⟩ := cmpOk_iff c.1
    obtain ⟨f2, p2⟩ := cmpOk_iff c.2
    obtain ⟨as, r1⟩ := reads_of (Z := Z) I rx ha f1
    obtain ⟨bs, r2⟩ := reads_of (Z := Z) I ry hb f2
    have f3 : D.flatL xs = true := by simpa [D.flat] using f2
    refine SeqAt.notIn_list_data (xs := D.pyL xs) (d := a.py) r2 r1 (plain_pyL xs f3) (plain_py a f1) ?_ ?_
    · rw [dep_py a f1]
      have := Nat.min_le_right (PyData.depthAll (D.pyL xs)) a.dep
      omega
    · rw [any_py a f1 xs f3]; exact q _ I
  · rename_i xs
    obtain ⟨c, e⟩ := grd_ok e
    obtain ⟨rfl, _⟩ := pure_ok e
    rw [Bool.and_eq_true] at c
    obtain ⟨f1, p1⟩ := cmpOk_iff c.1
    obtain ⟨f2, p2⟩ := cmpOk_iff c.2
    obtain ⟨as, r1⟩ := reads_of (Z := Z) I rx ha f1
    obtain ⟨bs, r2⟩ := reads_of (Z := Z) I ry hb f2
    have f3 : D.flatL xs = true := by simpa [D.flat] using f2
    refine SeqAt.notIn_tuple_data (xs := D.pyL xs) (d := a.py) r2 r1 (plain_pyL xs f3) (plain_py a f1) ?_ ?_
    · rw [dep_py a f1]
      have := Nat.min_le_right (PyData.depthAll (D.pyL xs)) a.dep
      omega
    · rw [any_py a f1 xs f3]; exact q _ I
  · cases hk : kyOf a with
    | none => simp only [hk] at e; exact (stk_ok e).elim
    | some k =>
      simp only [hk] at e
      obtain ⟨rfl, _⟩ := pure_ok e
      obtain ⟨p, o, rfl, g1, g2, _⟩ := dget_K hb ha hk
      obtain rfl : u = Value.ref p := ry
      refine d_notIn (by omega) I g1 rx fun s' I' => ?_
      rw [g2]; exact q _ I'
  · cases hk : kyT a with
    | none => simp only [hk] at e; exact (stk_ok e).elim
    | some k =>
      simp only [hk] at e
      obtain ⟨rfl, _⟩ := pure_ok e
      obtain ⟨p, o, rfl, g1, g2, _⟩ := dget_T hb ha hk
      obtain rfl : u = Value.ref p := ry
      refine d_notIn (by omega) I g1 rx fun s' I' => ?_
      rw [g2]; exact q _ I'
  · exact (stk_ok e).elim
theorem opr_cmp (hu : X.A.units + 200 < cLine) (o : CmpOp) : OpR X (compareOp o) (rT2 X.K Z (cmpD o)) := by
  intro pins s σ H x y v u Q I rx ry h
  obtain ⟨B, d1, d2, b, g, h1, h2, e, q⟩ := h
  unfold cmpD at e
  split at e
  · unfold eqD at e
    obtain ⟨c, e⟩ := grd_ok e
    obtain ⟨rfl, _⟩ := pure_ok e
    rw [Bool.and_eq_true] at c
    exact eq_run (by omega) I rx ry h1 h2 c.1 c.2 ⟨.bl _, H, I, rfl, q⟩
  · obtain ⟨k, g1, e1, e2⟩ := bind_ok e
    obtain ⟨rfl, _⟩ := pure_ok e2
    unfold eqD at e1
    obtain ⟨c, e1⟩ := grd_ok e1
    obtain ⟨rfl, _⟩ := pure_ok e1
    rw [Bool.and_eq_true] at c
    obtain ⟨f1, p1⟩ := cmpOk_iff c.1
    obtain ⟨f2, p2⟩ := cmpOk_iff c.2
    obtain ⟨as, r1⟩ := reads_of (Z := Z) I rx h1 f1
    obtain ⟨bs, r2⟩ := reads_of (Z := Z) I ry h2 f2
    refine SeqAt.ne_plain r1 r2 (plain_py _ f1) (plain_py _ f2) ?_ ?_
    · rw [dep_py _ f1]
      have := Nat.min_le_left d1.dep d2.py.depth
      omega
    · rw [eqv_py _ _ f1 f2]; exact ⟨.bl _, H, I, rfl, q⟩
  · cases h1; cases h2
    obtain ⟨rfl, _⟩ := pure_ok e
    exact op_lt pins s σ H _ _ v u Q I rx ry ⟨_, _, rfl, rfl, q⟩
  · cases h1; cases h2
    obtain ⟨rfl, _⟩ := pure_ok e
    exact op_le pins s σ H _ _ v u Q I rx ry ⟨_, _, rfl, rfl, q⟩
  · cases h1; cases h2
    obtain ⟨rfl, _⟩ := pure_ok e
    exact op_gt pins s σ H _ _ v u Q I rx ry ⟨_, _, rfl, rfl, q⟩
  · cases h1; cases h2
    obtain ⟨rfl, _⟩ := pure_ok e
    exact op_ge pins s σ H _ _ v u Q I rx ry ⟨_, _, rfl, rfl, q⟩
  · cases h1; cases h2
    obtain ⟨rfl, _⟩ := pure_ok e
    refine op_lt_str pins s σ H _ _ v u Q I rx ry ⟨_, _, rfl, rfl, ?_⟩
    rw [S_cps, S_cps, ← ltS_lt]
    exact q
  · exact in_run hu I rx ry h1 h2 e fun s' I' => ⟨.bl _, H, I', rfl, q⟩
  · obtain ⟨k, g1, e1, e2⟩ := bind_ok e
    obtain ⟨rfl, _⟩ := pure_ok e2
    exact notIn_run hu I rx ry h1 h2 e1 fun s' I' => ⟨.bl _, H, I', rfl, q⟩
  · obtain ⟨rfl, _⟩ := pure_ok e
    cases h2
    refine op_isN pins s σ H _ _ v u Q I rx ry ⟨rfl, ?_⟩
    cases h1 <;> exact q
  · obtain ⟨rfl, _⟩ := pure_ok e
    cases h2
    refine op_notN pins s σ H _ _ v u Q I rx ry ⟨rfl, ?_⟩
    cases h1 <;> exact q
  · exact (stk_ok e).elim
end
end TI
set_option Elab.async false
set_option linter.all false
set_option maxRecDepth 100000
set_option maxHeartbeats 4000000
/-! the order of sorted(..): ints, texts, tuples of them -/
namespace TI
open PySem PySem.Spec PyProof.Rows L2
/-- a strict total order -/
structure Sto {α : Type} (lt : α → α → Bool) : Prop where
  ir : ∀ x, lt x x = false
  tr : ∀ x y z, lt x y = true → lt y z = true → lt x z = true
  tot : ∀ x y, lt x y = false → lt y x = false → x = y
theorem sto_lex {α : Type} [DecidableEq α] {lt : α → α → Bool} (O : Sto lt) (L : List α → List α → Bool) (h1 : L [] [] = false) (h2 : ∀ y ys, L [] (y :: ys) = true) (h3 : ∀ x xs, L (x :: xs) [] = false)
    (h4 : ∀ x xs y ys, L (x :: xs) (y :: ys) = if x = y then L xs ys else lt x y) : Sto L := by
  refine ⟨?_, ?_, ?_⟩
  · intro x
    induction x with
    | nil => exact h1
    | cons x xs ih => rw [h4, if_pos rfl]; exact ih
  · intro x
    induction x with
    | nil =>
      intro y z a b
      cases z with
      | nil =>
        cases y with
        | nil => exact a
        | cons y ys => rw [h3] at b; cases b
      | cons z zs => exact h2 z zs
    | cons x xs ih =>
      intro y z a b
      cases y with
      | nil => rw [h3] at a; cases a
      | cons y ys =>
        cases z with
        | nil => rw [h3] at b; cases b
        | cons z zs =>
          rw [h4] at a b ⊢
          by_cases e1 : x = y
          · subst e1
            rw [if_pos rfl] at a
            by_cases e2 : x = z
            · subst e2
              rw [if_pos rfl] at b ⊢
              exact ih _ _ a b
            · rw [if_neg e2] at b ⊢
              exact b
          · rw [if_neg e1] at a
            by_cases e2 : y = z
            · subst e2
              rw [if_neg e1]; exact a
            · rw [if_neg e2] at b
              have := O.tr _ _ _ a b
              by_cases e3 : x = z
              · subst e3
                rw [O.ir] at this; cases this
              · rw [if_neg e3]; exact this
  · intro x
    induction x with
    | nil =>
      intro y a b
      cases y with
      | nil => rfl
      | cons y ys => rw [h2] at a; cases a
    | cons x xs ih =>
      intro y a b
      cases y with
      | nil => rw [h2] at b; cases b
      | cons y ys =>
        rw [h4] at a b
        by_cases e : x = y
        · subst e
          rw [if_pos rfl] at a b
          rw [ih _ a b]
        · rw [if_neg e] at a
          rw [if_neg (Ne.symm e)] at b
          exact absurd (O.tot _ _ a b) e
theorem sto_nat : Sto (fun a b : Nat => decide (a < b)) := ⟨fun x => by simp, fun x y z a b => by simp at *; omega, fun x y a b => by simp at *; omega⟩
theorem sto_N : Sto ltN := sto_lex sto_nat ltN rfl (fun _ _ => rfl) (fun _ _ => rfl) fun _ _ _ _ => rfl
theorem sto_Ky : Sto ltKy := by
  refine ⟨fun x => ?_, fun x y z a b => ?_, fun x y a b => ?_⟩
  · cases x with
    | i a => simp [ltKy]
    | s a => exact sto_N.ir a
  · cases x <;> cases y <;> cases z <;> simp only [ltKy, decide_eq_true_eq] at * <;> first | omega | exact sto_N.tr _ _ _ a b | (cases b; done) | (cases a; done) | trivial
  · cases x <;> cases y <;> simp only [ltKy, decide_eq_false_iff_not] at *
    · congr 1; omega
    · cases a
    · cases b
    · rw [sto_N.tot _ _ a b]
theorem sto_KL : Sto ltKL := sto_lex sto_Ky ltKL rfl (fun _ _ => rfl) (fun _ _ => rfl) fun _ _ _ _ => rfl
theorem Sto.swo {α β : Type} {lt : α → α → Bool} (O : Sto lt) (k : β → α) : SrtO.Swo fun x y => lt (k x) (k y) := by
  refine ⟨fun x y h => ?_, fun x y z h1 h2 => ?_⟩
  · cases e : lt (k y) (k x) with
    | false => rfl
    | true => have := O.tr _ _ _ h e; rw [O.ir] at this; cases this
  · cases e : lt (k z) (k x) with
    | false => rfl
    | true =>
      cases e2 : lt (k x) (k y) with
      | true => have := O.tr _ _ _ e e2; rw [h2] at this; cases this
      | false =>
        have := O.tot _ _ e2 h1
        rw [this, h2] at e; cases e
theorem kyOf_inj {a b : D} {k : Ky} (h1 : kyOf a = some k) (h2 : kyOf b = some k) : a = b := by
  cases a <;> cases b <;> simp [kyOf] at h1 h2 <;> (subst h1; simp at h2; try subst h2; try rfl)
theorem kyL_inj : ∀ {a b : List D} {k : List Ky}, kyL a = some k → kyL b = some k → a = b
  | [], [], _, _, _ => rfl
  | [], b :: bs, k, h1, h2 => by
    simp only [kyL, Option.some.injEq] at h1
    subst h1
    simp only [kyL] at h2
    split at h2 <;> simp at h2
  | a :: as, [], k, h1, h2 => by
    simp only [kyL, Option.some.injEq] at h2
    subst h2
    simp only [kyL] at h1
    split at h1 <;> simp at h1
  | a :: as, b :: bs, k, h1, h2 => by
    simp only [kyL] at h1 h2
    split at h1
    · rename_i k1 ks1 e1 e2
      split at h2
      · rename_i k2 ks2 e3 e4
        cases h1
        simp only [Option.some.injEq, List.cons.injEq] at h2
        obtain ⟨rfl, rfl⟩ := h2
        rw [kyOf_inj e1 e3, kyL_inj e2 e4]
      · cases h2
    · cases h1
theorem keyD_inj {a b : D} {k : List Ky} (s : shD a = shD b) (h1 : keyD a = some k) (h2 : keyD b = some k) : a = b := by
  cases a <;> simp only [keyD] at h1 <;> first | cases h1; done | skip
  all_goals cases b <;> simp only [keyD] at h2 <;> first | cases h2; done | skip
  · cases h1; cases h2; rfl
  · cases h1; cases h2
  · simp only [shD] at s
    split at s <;> simp at s
  · cases h1; cases h2
  · cases h1; cases h2; rfl
  · simp only [shD] at s
    split at s <;> simp at s
  · simp only [shD] at s
    split at s <;> simp at s
  · simp only [shD] at s
    split at s <;> simp at s
  · rw [kyL_inj h1 h2]
theorem shD_key {d : D} (h : (shD d).isSome = true) : ∃ k, keyD d = some k := by
  cases d <;> simp only [shD, Option.isSome] at h <;> first | cases h; done | skip
  · exact ⟨_, rfl⟩
  · exact ⟨_, rfl⟩
  · simp only [keyD]
    split at h
    · rename_i heq
      split at heq
      · rename_i e; exact ⟨_, e⟩
      · cases heq
    · cases h
end TI
set_option Elab.async false
set_option linter.all false
set_option maxRecDepth 100000
set_option maxHeartbeats 4000000
namespace TI
open PySem PySem.Spec PyProof.Rows L2
/-! ### values with their keys -/
inductive KyV : Value → Ky → Prop
  | i (n : Int) (t : Tok) : KyV (.int n t) (.i n)
  | s (x : List Nat) (t : Tok) : KyV (.str (S x) t) (.s x)
inductive KyVs : List Value → List Ky → Prop
  | nil : KyVs [] []
  | cons {u : Value} {us : List Value} {k : Ky} {ks : List Ky} : KyV u k → KyVs us ks → KyVs (u :: us) (k :: ks)
inductive VKy (h : Heap) : Nat → Value → List Ky → Prop
  | i (n : Int) (t : Tok) : VKy h 0 (.int n t) [.i n]
  | s (x : List Nat) (t : Tok) : VKy h 1 (.str (S x) t) [.s x]
  | t {a : Addr} {o : Obj} {us : Array Value} {n : Nat} {ks : List Ky} : h.get? a = some o → o.cls = .type "tuple" → o.data = .seq us n → KyVs us.toList ks → VKy h 2 (.ref a) ks
theorem KyV.uq {u : Value} {k l : Ky} (a : KyV u k) (b : KyV u l) : k = l := by
  cases a with
  | i n t => cases b; rfl
  | s x t =>
    generalize e : Value.str (S x) t = u at b
    cases b with
    | i n t' => cases e
    | s y t' =>
      simp only [Value.str.injEq] at e
      rw [S_inj e.1]
theorem KyVs.uq : ∀ {us : List Value} {k l : List Ky}, KyVs us k → KyVs us l → k = l
  | _, _, _, .nil, .nil => rfl
  | _, _, _, .cons a t, .cons b u => by rw [a.uq b, t.uq u]
theorem VKy.uq {h : Heap} {n m : Nat} {u : Value} {k l : List Ky} (a : VKy h n u k) (b : VKy h m u l) : k = l := by
  cases a with
  | i n t => cases b; rfl
  | s x t =>
    generalize e : Value.str (S x) t = u at b
    cases b with
    | i n t' => cases e
    | s y t' =>
      simp only [Value.str.injEq] at e
      rw [S_inj e.1]
    | t _ _ _ _ => cases e
  | t h1 h2 h3 h4 =>
    cases b with
    | t g1 g2 g3 g4 =>
      rw [h1] at g1
      cases g1
      rw [h3] at g3
      cases g3
      exact h4.uq g4
theorem KyVs.length : ∀ {us : List Value} {k : List Ky}, KyVs us k → us.length = k.length
  | _, _, .nil => rfl
  | _, _, .cons _ t => by simp [t.length]
open Classical in
noncomputable def kf (h : Heap) (u : Value) : List Ky := if e : ∃ n k, VKy h n u k then e.choose_spec.choose else []
theorem kf_eq {h : Heap} {n : Nat} {u : Value} {k : List Ky} (a : VKy h n u k) : kf h u = k := by
  unfold kf
  rw [dif_pos ⟨n, k, a⟩]
  exact VKy.uq (Exists.choose_spec (Exists.choose_spec (⟨n, k, a⟩ : ∃ n k, VKy h n u k))) a
theorem VKy.keep {h h' : Heap} {n : Nat} {u : Value} {k : List Ky} (a : VKy h n u k) (kp : ∀ b o, h.get? b = some o → o.cls = .type "tuple" → h'.get? b = some o) : VKy h' n u k := by
  cases a with
  | i n t => exact .i n t
  | s x t => exact .s x t
  | t h1 h2 h3 h4 => exact .t (kp _ _ h1 h2) h2 h3 h4
section
variable {prog : Program} {w : World} {A : Around} {E : Value → Shared → Prop} {s : Shared}
theorem ltN_dec (a b : List Nat) : decide ((S a).cps.toList < (S b).cps.toList) = ltN a b := by
  rw [S_cps, S_cps, ← ltS_lt]
  induction a generalizing b with
  | nil => cases b <;> rfl
  | cons x xs ih =>
    cases b with
    | nil => rfl
    | cons y ys =>
      simp only [ltS, ltN]
      rw [ih]
theorem kat_all : ∀ {us vs : List Value} {ks ls : List Ky} (i : Nat), KyVs us ks → KyVs vs ls → ks.map kyB = ls.map kyB → PySem.W.KatLex prog w A true false (fun r s' => s' = s ∧ r = ltKL ks ls) (us.zip vs) i s
  | _, _, _, _, i, .nil, .nil, _ => PySem.W.kat_nil ⟨rfl, rfl⟩
  | _, _, _, _, i, .nil, .cons _ _, h => by simp at h
  | _, _, _, _, i, .cons _ _, .nil, h => by simp at h
  | _, _, _, _, i, .cons (us := us) (ks := ks) a t, .cons (us := vs) (ks := ls) b u, h => by
    simp only [List.map_cons, List.cons.injEq] at h
    have ih := kat_all (i + 1) t u h.2
    cases a with
    | i x tx =>
      cases b with
      | i y ty =>
        refine PySem.W.kat_cons (SeqAt.EqAt.int_int x tx y ty prog w _ _ ?_)
        refine PySem.W.kat_go (fun e1 => ?_) (fun e1 => ?_)
        · have ex : x = y := by simpa using e1
          subst ex
          refine PySem.W.kat_yes ?_
          have e2 : ltKL (.i x :: ks) (.i x :: ls) = ltKL ks ls := by simp [ltKL]
          rw [e2]; exact ih
        · have ex : ¬ x = y := by simpa using e1
          have e2 : ltKL (.i x :: ks) (.i y :: ls) = decide (x < y) := by simp [ltKL, ltKy, ex]
          rw [e2]
          refine PySem.W.kat_no ?_
          cases hb : (true && i == 0) with
          | true => exact oneLt_int ⟨rfl, rfl⟩
          | false => exact PySem.W.kat_one _ _ (PyProof.Rows.lt_int ⟨rfl, rfl⟩)
      | s y ty => simp [kyB] at h
    | s x tx =>
      cases b with
      | i y ty => simp [kyB] at h
      | s y ty =>
        refine PySem.W.kat_cons (SeqAt.EqAt.str_str (S x) tx (S y) ty prog w _ _ ?_)
        refine PySem.W.kat_go (fun e1 => ?_) (fun e1 => ?_)
        · have ex : x = y := S_inj (by simpa using e1)
          subst ex
          refine PySem.W.kat_yes ?_
          have e2 : ltKL (.s x :: ks) (.s x :: ls) = ltKL ks ls := by simp [ltKL]
          rw [e2]; exact ih
        · have ex : ¬ x = y := fun z => by subst z; simp at e1
          have e2 : ltKL (.s x :: ks) (.s y :: ls) = ltN x y := by simp [ltKL, ltKy, ex]
          rw [e2]
          refine PySem.W.kat_no ?_
          cases hb : (true && i == 0) with
          | true => exact oneLt_str ⟨rfl, ltN_dec x y⟩
          | false => exact PySem.W.kat_one _ _ (PyProof.Rows.lt_str ⟨rfl, ltN_dec x y⟩)
/-- all of one kind: m, members ms -/
def VAll (h : Heap) (vs : List Value) (m : Nat) (ms : List Bool) : Prop := ∀ v ∈ vs, ∃ k, VKy h m v k ∧ (m = 2 → k.map kyB = ms)
theorem ky_cmp {vs : List Value} {m : Nat} {ms : List Bool} (hp : VAll s.heap vs m ms) {h0 : Heap} (eq : ∀ v ∈ vs, kf h0 v = kf s.heap v) : SrtO.Cmp prog w A s (if m = 2 then tuples' true else oneType') (fun p => p.1 ∈ vs) (SrtO.lt2 fun v u => ltKL (kf h0 v) (kf h0 u)) := by
  intro p q hm hm'
  obtain ⟨k, a, e1⟩ := hp _ hm
  obtain ⟨l, b, e2⟩ := hp _ hm'
  show wpAny (model prog w) A (keyLt' (if m = 2 then tuples' true else oneType') p.1 q.1) (fun r s' => s' = s ∧ r = ltKL (kf h0 p.1) (kf h0 q.1)) (fun _ _ => False) s
  rw [eq _ hm, eq _ hm', kf_eq a, kf_eq b]
  generalize p.1 = x at a
  generalize q.1 = y at b
  cases a with
  | i n t =>
    cases b with
    | i n' t' =>
      rw [if_neg (by decide), keyLt'_oneType]
      exact oneLt_int ⟨rfl, by simp [ltKL, ltKy]; intro h; omega⟩
  | s n t =>
    cases b with
    | s n' t' =>
      rw [if_neg (by decide), keyLt'_oneType]
      refine oneLt_str ⟨rfl, ?_⟩
      rw [ltN_dec]
      by_cases e : n = n'
      · subst e; simp [ltKL, sto_N.ir]
      · simp [ltKL, ltKy, e]
  | @t a1 o1 us1 n1 k1 h1 h2 h3 h4 =>
    cases b with
    | @t a2 o2 us2 n2 k2 g1 g2 g3 g4 =>
      rw [if_pos rfl]
      refine PySem.W.kat_lt h1 h3 g1 g3 ?_
      have el : decide (us1.size < us2.size) = false := decide_eq_false (by
        have a1 := h4.length
        have a2 := g4.length
        have a3 := congrArg List.length ((e1 rfl).trans (e2 rfl).symm)
        rw [List.length_map, List.length_map] at a3
        rw [Array.length_toList] at a1 a2
        omega)
      rw [el]
      exact kat_all 0 h4 g4 ((e1 rfl).trans (e2 rfl).symm)
theorem firsts_ky {h : Heap} {ms : List Bool} : ∀ {vs : List Value}, VAll h vs 2 ms → ∀ b r, ms = b :: r → ∃ fs : List Value, PySem.W.KatTups h vs fs ∧ fs.length = vs.length ∧ ∀ f ∈ fs, (b = true → ∃ x t, f = Value.int x t) ∧ (b = false → ∃ x t, f = Value.str x t)
  | [], _, b, r, _ => ⟨[], PySem.W.KatTups.nil, rfl, fun _ hm => by simp at hm⟩
  | v :: vs, hp, b, r, e => by
    obtain ⟨fs, h1, h2, h3⟩ := firsts_ky (vs := vs) (fun v' hm => hp v' (List.mem_cons_of_mem _ hm)) b r e
    obtain ⟨k, a, ek⟩ := hp v (List.mem_cons_self ..)
    have ek := ek rfl
    cases a with
    | @t a1 o1 us1 n1 k1 g1 g2 g3 g4 =>
      rw [e] at ek
      cases hk : us1.toList with
      | nil => rw [hk] at g4; cases g4; simp at ek
      | cons u us =>
        rw [hk] at g4
        cases g4 with
        | cons g5 g6 =>
          simp only [List.map_cons, List.cons.injEq] at ek
          refine ⟨u :: fs, PySem.W.KatTups.cons g1 g2 g3 (by rw [← Array.getElem?_toList, hk]; rfl) h1, by rw [List.length_cons, List.length_cons, h2], fun f hm => ?_⟩
          rcases List.mem_cons.mp hm with rfl | hm
          · rw [← ek.1]
            cases g5 with
            | i n t => exact ⟨fun _ => ⟨_, _, rfl⟩, fun z => by cases z⟩
            | s n t => exact ⟨fun z => (by cases z), fun _ => ⟨_, _, rfl⟩⟩
          · exact h3 f hm
theorem ints_ky {h : Heap} : ∀ {vs : List Value} {ms : List Bool}, VAll h vs 0 ms → ∃ ns, IntsAre vs ns
  | [], _, _ => ⟨[], .nil⟩
  | v :: vs, _, hp => by
    obtain ⟨ns, h1⟩ := ints_ky (vs := vs) fun v' hm => hp v' (List.mem_cons_of_mem _ hm)
    obtain ⟨k, a, _⟩ := hp v (List.mem_cons_self ..)
    cases a with
    | i n t => exact ⟨_, .cons n t h1⟩
theorem strs_ky {h : Heap} : ∀ {vs : List Value} {ms : List Bool}, VAll h vs 1 ms → ∃ ns, StrsAre vs ns
  | [], _, _ => ⟨[], .nil⟩
  | v :: vs, _, hp => by
    obtain ⟨ns, h1⟩ := strs_ky (vs := vs) fun v' hm => hp v' (List.mem_cons_of_mem _ hm)
    obtain ⟨k, a, _⟩ := hp v (List.mem_cons_self ..)
    cases a with
    | s n t => exact ⟨_, .cons _ t h1⟩
theorem ky_sortable {a : Addr} {vs : List Value} {m : Nat} {ms : List Bool} (h2 : 2 ≤ vs.length) (hp : VAll s.heap vs m ms) (hm : m = 2 → ms ≠ []) (ha : ∀ o, s.heap.get? a = some o → o.cls ≠ .type "tuple") :
    SrtO.SortableO prog w A s a vs fun v u => ltKL (kf s.heap v) (kf s.heap u) := by
  intro h' keep
  have kp : ∀ b o, s.heap.get? b = some o → o.cls = .type "tuple" → h'.get? b = some o := fun b o e c => keep b o (fun z => by subst z; exact ha o e c) e
  have hp' : VAll h' vs m ms := fun v hv => by
    obtain ⟨k, a, e⟩ := hp v hv
    exact ⟨k, a.keep kp, e⟩
  have eq : ∀ v ∈ vs, kf s.heap v = kf h' v := fun v hv => by
    obtain ⟨k, a, e⟩ := hp v hv
    rw [kf_eq a, kf_eq (a.keep kp)]
  refine ⟨if m = 2 then tuples' true else oneType', fun Q E hq => ?_, ky_cmp (s := { s with heap := h' }) hp' eq⟩
  obtain ⟨v1, v2, rest, rfl⟩ : ∃ v1 v2 rest, vs = v1 :: v2 :: rest := by
    match vs, h2 with
    | v1 :: v2 :: rest, _ => exact ⟨_, _, _, rfl⟩
    | [], h => exact absurd h (by decide)
    | [v], h => exact absurd h (by simp)
  by_cases e2 : m = 2
  · subst e2
    rw [if_pos rfl] at hq
    obtain ⟨b, r, eb⟩ : ∃ b r, ms = b :: r := by
      cases ms with
      | nil => exact absurd rfl (hm rfl)
      | cons b r => exact ⟨b, r, rfl⟩
    obtain ⟨fs, h1, h2, h3⟩ := firsts_ky hp' b r eb
    cases b with
    | true =>
      refine PySem.W.kat_kind (T := .type "int") (s := { s with heap := h' }) h1 (by omega) (fun f hm => ?_) (by rfl) ?_
      · obtain ⟨x, t, rfl⟩ := (h3 f hm).1 rfl
        exact PySem.W.Looks.now
      · have e : (Value.type "int" != Value.type "tuple") = true := by first | decide +kernel | rfl | decide
        rw [e]
        exact hq
    | false =>
      refine PySem.W.kat_kind (T := .type "str") (s := { s with heap := h' }) h1 (by omega) (fun f hm => ?_) (by rfl) ?_
      · obtain ⟨x, t, rfl⟩ := (h3 f hm).2 rfl
        exact PySem.W.Looks.now
      · have e : (Value.type "str" != Value.type "tuple") = true := by first | decide +kernel | rfl | decide
        rw [e]
        exact hq
  · rw [if_neg e2] at hq
    have : m = 0 ∨ m = 1 := by
      obtain ⟨k, a, _⟩ := hp v1 (by simp)
      cases a with
      | i _ _ => exact .inl rfl
      | s _ _ => exact .inr rfl
      | t _ _ _ _ => exact absurd rfl e2
    rcases this with rfl | rfl
    · obtain ⟨ns, hI⟩ := ints_ky hp'
      rw [keyKind_ints hI]
      exact wpAny_pure hq
    · obtain ⟨ns, hI⟩ := strs_ky hp'
      rw [keyKind_strs hI]
      exact wpAny_pure hq
end
end TI
namespace TI
open PySem PySem.Spec PyProof.Rows L2
/-! ### the sorted trees -/
theorem leD_trans (a b c : D) (h1 : leD a b = true) (h2 : leD b c = true) : leD a c = true := by
  unfold leD at *
  simp only [Bool.not_eq_true'] at *
  exact (sto_KL.swo fun d : D => (keyD d).getD []).tr _ _ _ h1 h2
theorem leD_total (a b : D) : (leD a b || leD b a) = true := by
  unfold leD
  cases e : ltKL ((keyD b).getD []) ((keyD a).getD []) with
  | false => rfl
  | true => rw [(sto_KL.swo fun d : D => (keyD d).getD []).asym _ _ e]; rfl
theorem sortD_perm (ds : List D) : (sortD ds).Perm ds := List.mergeSort_perm _ _
theorem sortD_pw (ds : List D) : (sortD ds).Pairwise fun a b => leD a b = true := List.pairwise_mergeSort leD_trans leD_total ds
theorem srtOk_mem {ds : List D} (h : srtOk ds = true) : ∀ a ∈ ds, ∀ b ∈ ds, shD a = shD b ∧ ∃ k, keyD a = some k := by
  cases ds with
  | nil => intro a ha; simp at ha
  | cons d ds =>
    unfold srtOk at h
    rw [Bool.and_eq_true] at h
    have key : ∀ a ∈ d :: ds, shD a = shD d := fun a ha => by
      rcases List.mem_cons.mp ha with rfl | ha
      · rfl
      · exact of_decide_eq_true (List.all_eq_true.mp h.2 a ha)
    intro a ha b hb
    exact ⟨(key a ha).trans (key b hb).symm, shD_key (by rw [key a ha]; exact h.1)⟩
/-- the only sorted order -/
theorem sortD_uq {ds es : List D} (h : srtOk ds = true) (p : es.Perm ds) (pw : es.Pairwise fun a b => leD a b = true) : es = sortD ds := by
  refine List.Perm.eq_of_pairwise (le := fun a b => leD a b = true) (fun a b ha hb h1 h2 => ?_) pw (sortD_pw ds) (p.trans (sortD_perm ds).symm)
  have ha := p.mem_iff.mp ha
  have hb := (sortD_perm ds).mem_iff.mp hb
  obtain ⟨e, k, hk⟩ := srtOk_mem h a ha b hb
  obtain ⟨_, l, hl⟩ := srtOk_mem h b hb a ha
  unfold leD at h1 h2
  rw [hk, hl] at h1 h2
  simp only [Option.getD_some, Bool.not_eq_true'] at h1 h2
  have := sto_KL.tot _ _ h2 h1
  subst this
  exact keyD_inj e hk hl
theorem perm_lift {α β : Type} (f : α → β) : ∀ {out : List β} {l : List α}, out.Perm (l.map f) → ∃ l' : List α, l'.Perm l ∧ l'.map f = out
  | [], l, h => by
    have : l = [] := by simpa using h.symm.eq_nil
    exact ⟨[], by rw [this], rfl⟩
  | x :: out, l, h => by
    obtain ⟨y, hy, rfl⟩ := List.mem_map.mp (h.mem_iff.mp List.mem_cons_self)
    obtain ⟨l1, l2, rfl⟩ := List.append_of_mem hy
    have h' : (f y :: out).Perm (f y :: (l1 ++ l2).map f) := h.trans ((List.perm_middle (a := y) (l₁ := l1) (l₂ := l2)).map f)
    obtain ⟨l', p, e⟩ := perm_lift f h'.cons_inv
    exact ⟨y :: l', (p.cons y).trans (List.perm_middle (a := y) (l₁ := l1) (l₂ := l2)).symm, by rw [List.map_cons, e]⟩
/-- values with their trees -/
inductive VUD (K : PySem.W.Frag) (r : Addr) (H : Hp) (B : Addr → Prop) : List (V × Value × D) → Prop
  | nil : VUD K r H B []
  | cons {v : V} {u : Value} {d : D} {l : List (V × Value × D)} : RelV v u → Den K r H B v d → VUD K r H B l → VUD K r H B ((v, u, d) :: l)
section
variable {K : PySem.W.Frag} {r : Addr} {H : Hp} {B : Addr → Prop}
theorem vud_of : ∀ {vs : List V} {us : List Value} {ds : List D}, Vals vs us → DenL K r H B vs ds → ∃ l, VUD K r H B l ∧ l.map (·.1) = vs ∧ l.map (·.2.1) = us ∧ l.map (·.2.2) = ds
  | _, _, _, .nil, .nil => ⟨[], .nil, rfl, rfl, rfl⟩
  | _, _, _, .cons a t, .cons b u => by
    obtain ⟨l, h1, h2, h3, h4⟩ := vud_of t u
    exact ⟨_, .cons a b h1, by simp [h2], by simp [h3], by simp [h4]⟩
theorem VUD.mem {l : List (V × Value × D)} (h : VUD K r H B l) : ∀ x ∈ l, RelV x.1 x.2.1 ∧ Den K r H B x.1 x.2.2 := by
  induction h with
  | nil => intro x hx; simp at hx
  | cons a b t ih =>
    intro x hx
    rcases List.mem_cons.mp hx with rfl | hx
    · exact ⟨a, b⟩
    · exact ih x hx
theorem vud_back : ∀ {l : List (V × Value × D)}, (∀ x ∈ l, RelV x.1 x.2.1 ∧ Den K r H B x.1 x.2.2) → Vals (l.map (·.1)) (l.map (·.2.1)) ∧ DenL K r H B (l.map (·.1)) (l.map (·.2.2))
  | [], _ => ⟨.nil, .nil⟩
  | x :: l, h => by
    obtain ⟨h1, h2⟩ := vud_back fun y hy => h y (List.mem_cons_of_mem _ hy)
    obtain ⟨h3, h4⟩ := h x List.mem_cons_self
    exact ⟨.cons h3 h1, .cons h4 h2⟩
theorem kyVs_of : ∀ {ks : List Ky} {us : List Value}, Vals ((ks.map Ky.k).map kV) us → KyVs us ks
  | [], _, h => by cases h; exact .nil
  | .i n :: ks, _, h => by
    cases h with
    | cons a t =>
      obtain ⟨tk, rfl⟩ := a
      exact .cons (.i n tk) (kyVs_of t)
  | .s x :: ks, _, h => by
    cases h with
    | cons a t =>
      obtain ⟨tk, rfl⟩ := a
      exact .cons (.s x tk) (kyVs_of t)
theorem vky_of {X : Cx} {pins : List (Addr × Obj)} {s : Shared} {σ : L2.St} {v : V} {u : Value} {d : D} {k : List Ky} {m : Nat} {ms : List Bool} (I : Inv X pins σ H s) (a : RelV v u) (n : Den K r H B v d) (hs : shD d = some (m, ms)) (hk : keyD d = some k) :
    VKy s.heap m u k ∧ (m = 2 → k.map kyB = ms) := by
  cases n with
  | int i =>
    obtain ⟨t, rfl⟩ := a
    cases hs; cases hk
    exact ⟨.i _ _, fun z => by cases z⟩
  | str x =>
    obtain ⟨t, rfl⟩ := a
    cases hs; cases hk
    exact ⟨.s _ _, fun z => by cases z⟩
  | @tup ad vs ds h1 h2 =>
    obtain rfl : u = Value.ref ad := a
    have hk : kyL ds = some k := hk
    have e1 := kyL_den h2 hk
    obtain ⟨_, its2, r2, o, ho, hc, nn, hd⟩ := I.hok _ _ h1
    rw [e1] at r2
    have hs : (match kyL ds with
      | some (k :: ks) => some (2, (k :: ks).map kyB)
      | _ => none) = some (m, ms) := hs
    rw [hk] at hs
    cases k with
    | nil => cases hs
    | cons k0 ks =>
      simp only [Option.some.injEq, Prod.mk.injEq] at hs
      obtain ⟨rfl, rfl⟩ := hs
      exact ⟨.t ho hc hd (by simpa using kyVs_of r2), fun _ => rfl⟩
  | _ => cases hs
end
section
variable {X : Cx}
theorem srtOk_sh {ds : List D} (h : srtOk ds = true) (h0 : ds ≠ []) : ∃ m ms, (∀ d ∈ ds, shD d = some (m, ms)) ∧ (m = 2 → ms ≠ []) := by
  cases ds with
  | nil => exact absurd rfl h0
  | cons d ds =>
    unfold srtOk at h
    rw [Bool.and_eq_true] at h
    obtain ⟨⟨m, ms⟩, e⟩ := Option.isSome_iff_exists.mp h.1
    refine ⟨m, ms, fun a ha => ?_, fun z => ?_⟩
    · rcases List.mem_cons.mp ha with rfl | ha
      · exact e
      · exact (of_decide_eq_true (List.all_eq_true.mp h.2 a ha)).trans e
    · subst z
      cases d <;> simp only [shD] at e <;> first | cases e; done | skip
      split at e
      · simp only [Option.some.injEq, Prod.mk.injEq] at e
        rw [← e.2]; simp
      · cases e
theorem pw_of {h : Heap} {m : Nat} : ∀ {l : List (V × Value × D)}, (∀ x ∈ l, ∃ k, keyD x.2.2 = some k ∧ VKy h m x.2.1 k) → (l.map (·.2.1)).Pairwise (fun x y => ltKL (kf h y) (kf h x) = false) → (l.map (·.2.2)).Pairwise fun a b => leD a b = true := fun {l} hk hp => by
  rw [List.pairwise_map] at hp ⊢
  refine List.Pairwise.imp_of_mem (fun {a b} ha hb h => ?_) hp
  obtain ⟨k, e1, e2⟩ := hk a ha
  obtain ⟨k', e3, e4⟩ := hk b hb
  unfold leD
  rw [e1, e3]
  rw [kf_eq e2, kf_eq e4] at h
  simp [h]
/-- what sorting gives, by trees -/
theorem srt_end {Z : Spc} {B : Addr → Prop} {pins : List (Addr × Obj)} {s : Shared} {σ : L2.St} {H : Hp} {vs : List V} {us : List Value} {ds : List D} {out : List Value} (I : Inv X pins σ H s) (rv : Vals vs us) (n : DenL X.K Z.r H B vs ds) (ok : srtOk ds = true) {h0 : Heap} (e0 : ∀ b o, s.heap.get? b = some o → h0.get? b = some o)
    (h1 : SrtO.Srtd (fun v u => ltKL (kf h0 v) (kf h0 u)) out) (h2 : out.Perm us) : ∃ vs', Vals vs' out ∧ DenL X.K Z.r H B vs' (sortD ds) ∧ vs'.length = ds.length := by
  obtain ⟨l, hl, e1, e2, e3⟩ := vud_of rv n
  rw [← e2] at h2
  obtain ⟨l', p, e4⟩ := perm_lift _ h2
  obtain ⟨b1, b2⟩ := vud_back fun x hx => hl.mem x (p.mem_iff.mp hx)
  have es : l'.map (·.2.2) = sortD ds := by
    refine sortD_uq ok (by rw [← e3]; exact p.map _) ?_
    by_cases hn : ds = []
    · subst hn
      have : l = [] := by simpa using e3
      subst this
      have : l' = [] := p.eq_nil
      subst this
      exact List.Pairwise.nil
    · obtain ⟨m, ms, hs, _⟩ := srtOk_sh ok hn
      refine pw_of (m := m) (fun x hx => ?_) (by rw [e4]; exact h1)
      have hx' := p.mem_iff.mp hx
      have hd : x.2.2 ∈ ds := by rw [← e3]; exact List.mem_map.mpr ⟨x, hx', rfl⟩
      obtain ⟨_, k, hk⟩ := srtOk_mem ok _ hd _ hd
      obtain ⟨a, b⟩ := hl.mem x hx'
      exact ⟨k, hk, (vky_of I a b (hs _ hd) hk).1.keep fun b o e _ => e0 b o e⟩
  refine ⟨l'.map (·.1), by rw [← e4]; exact b1, by rw [← es]; exact b2, ?_⟩
  rw [List.length_map, p.length_eq, ← e3, List.length_map]
theorem vall_of {Z : Spc} {B : Addr → Prop} {pins : List (Addr × Obj)} {s : Shared} {σ : L2.St} {H : Hp} {vs : List V} {us : List Value} {ds : List D} (I : Inv X pins σ H s) (rv : Vals vs us) (n : DenL X.K Z.r H B vs ds) (ok : srtOk ds = true) (h0 : us ≠ []) : ∃ m ms, VAll s.heap us m ms ∧ (m = 2 → ms ≠ []) := by
  obtain ⟨l, hl, e1, e2, e3⟩ := vud_of rv n
  have hn : ds ≠ [] := fun z => by
    subst z
    have : l = [] := by simpa using e3
    subst this
    exact h0 e2.symm
  obtain ⟨m, ms, hs, hm⟩ := srtOk_sh ok hn
  refine ⟨m, ms, fun u hu => ?_, hm⟩
  rw [← e2] at hu
  obtain ⟨x, hx, rfl⟩ := List.mem_map.mp hu
  obtain ⟨a, b⟩ := hl.mem x hx
  have hd : x.2.2 ∈ ds := by rw [← e3]; exact List.mem_map.mpr ⟨x, hx, rfl⟩
  obtain ⟨_, k, hk⟩ := srtOk_mem ok _ hd _ hd
  obtain ⟨c1, c2⟩ := vky_of I a b (hs _ hd) hk
  exact ⟨k, c1, c2⟩
/-- sorted(x), x a list -/
theorem sorted_list {Z : Spc} {B : Addr → Prop} {pins : List (Addr × Obj)} {s : Shared} {σ : L2.St} {H : Hp} {a : Addr} {vs : List V} {ds : List D} {Q : VK} (I : Inv X pins σ H s) (ha : SqL X.K H a vs) (bk : BOk B H) (n : DenL X.K Z.r H B vs ds) (ok : srtOk ds = true)
    (q : ∀ v H', Same H H' → Den X.K Z.r H' B v (.lst (sortD ds)) → (∃ p, v = .ref p ∧ H p = none) → Q v H') : wpAny (model X.prog X.w) X.A (call (.builtin "sorted") [.ref a]) (EP X pins σ Q) X.xe s := by
  obtain ⟨its, rv, hl, hz⟩ := I.list ha
  have hz' : its.length ≤ sizeLine := by rw [← rv.length]; exact hz
  refine SrtO.sorted_ord (sto_KL.swo (kf s.heap)) hl.isList hz' (fun h2 h₁ a' ha' kk => ?_) fun out h1 h2 => ?_
  · obtain ⟨m, ms, va, hm⟩ := vall_of I rv n ok (fun z => by subst z; exact absurd h2 (by decide))
    have kp : ∀ b o, s.heap.get? b = some o → o.cls = .type "tuple" → h₁.get? b = some o := fun b o e _ => (kk b o e).2
    have va' : VAll h₁ its m ms := fun v hv => by
      obtain ⟨k, x, e⟩ := va v hv
      exact ⟨k, x.keep kp, e⟩
    intro h' keep
    obtain ⟨κ, g1, g2⟩ := ky_sortable (prog := X.prog) (w := X.w) (A := X.A.in1.in1) (s := { s with heap := h₁ }) (a := a') h2 va' hm (fun o e => by
      have e' : some o = some (seqObj "list" its.toArray 0) := e.symm.trans ha'
      cases e'
      intro c
      exact absurd (Value.type.inj c) (by decide)) h' keep
    refine ⟨κ, g1, fun p q hp hq => ?_⟩
    have := g2 p q hp hq
    have e1 : ∀ v ∈ its, kf h₁ v = kf s.heap v := fun v hv => by
      obtain ⟨k, x, e⟩ := va v hv
      rw [kf_eq x, kf_eq (x.keep kp)]
    have e2 : SrtO.lt2 (fun v u => ltKL (kf h₁ v) (kf h₁ u)) p q = SrtO.lt2 (fun v u => ltKL (kf s.heap v) (kf s.heap u)) p q := by
      show ltKL (kf h₁ p.1) (kf h₁ q.1) = ltKL (kf s.heap p.1) (kf s.heap q.1)
      rw [e1 _ hp, e1 _ hq]
    rw [← e2]
    exact this
  · obtain ⟨vs', b1, b2, b3⟩ := srt_end I rv n ok (h0 := s.heap) (fun b o e => e) h1 h2.perm
    obtain ⟨ep, he'⟩ := PyProof.Rows.sortedAll_at s.heap its out.toArray
    have np : H (s.heap.objs.size + 1) = none := I.hok.fresh (Nat.le_succ _)
    exact ⟨.ref _, upd H (s.heap.objs.size + 1) (.lst vs'), I.laid (t' := s.toks) (fun _ _ => PyProof.Rows.sortedAll_old) (Nat.le_succ _) ⟨by rw [b3, ← n.length]; exact hz, out, ep, b1, he'⟩, rfl, q _ _ (same_upd np) (den_newL bk np b2) ⟨_, rfl, np⟩⟩
end
end TI
set_option Elab.async false
set_option linter.all false
set_option maxRecDepth 100000
set_option maxHeartbeats 4000000
namespace TI
open PySem PySem.Spec PyProof.Rows L2
theorem den_keys {K : PySem.W.Frag} {r : Addr} {H : Hp} {B : Addr → Prop} : ∀ {ks : List Ky}, DenL K r H B ((ks.map Ky.k).map kV) (ks.map Ky.d)
  | [] => .nil
  | .i n :: ks => .cons (.int n) den_keys
  | .s x :: ks => .cons (.str x) den_keys
section
variable {X : Cx}
theorem sortable_of {Z : Spc} {B : Addr → Prop} {pins : List (Addr × Obj)} {s : Shared} {σ : L2.St} {H : Hp} {A : Around} {us : List Value} {vs : List V} {ds : List D} {h₁ : Heap} {a' : Addr} (I : Inv X pins σ H s) (rv : Vals vs us) (n : DenL X.K Z.r H B vs ds) (ok : srtOk ds = true) (h2 : 2 ≤ us.length)
    (kk : ∀ b o, s.heap.get? b = some o → h₁.get? b = some o) (ha' : h₁.get? a' = some (seqObj "list" us.toArray 0)) : SrtO.SortableO X.prog X.w A { s with heap := h₁ } a' us fun v u => ltKL (kf s.heap v) (kf s.heap u) := by
  obtain ⟨m, ms, va, hm⟩ := vall_of I rv n ok (fun z => by subst z; exact absurd h2 (by decide))
  have kp : ∀ b o, s.heap.get? b = some o → o.cls = .type "tuple" → h₁.get? b = some o := fun b o e _ => kk b o e
  have va' : VAll h₁ us m ms := fun v hv => by
    obtain ⟨k, x, e⟩ := va v hv
    exact ⟨k, x.keep kp, e⟩
  intro h' keep
  obtain ⟨κ, g1, g2⟩ := ky_sortable (prog := X.prog) (w := X.w) (A := A) (s := { s with heap := h₁ }) (a := a') h2 va' hm (fun o e => by
    have e' : some o = some (seqObj "list" us.toArray 0) := e.symm.trans ha'
    cases e'
    intro c
    exact absurd (Value.type.inj c) (by decide)) h' keep
  refine ⟨κ, g1, fun p q hp hq => ?_⟩
  have := g2 p q hp hq
  have e1 : ∀ v ∈ us, kf h₁ v = kf s.heap v := fun v hv => by
    obtain ⟨k, x, e⟩ := va v hv
    rw [kf_eq x, kf_eq (x.keep kp)]
  have e2 : SrtO.lt2 (fun v u => ltKL (kf h₁ v) (kf h₁ u)) p q = SrtO.lt2 (fun v u => ltKL (kf s.heap v) (kf s.heap u)) p q := by
    show ltKL (kf h₁ p.1) (kf h₁ q.1) = ltKL (kf s.heap p.1) (kf s.heap q.1)
    rw [e1 _ hp, e1 _ hq]
  rw [← e2]
  exact this
/-- .. behind the collecting -/
theorem sorted_acc {Z : Spc} {B : Addr → Prop} {pins : List (Addr × Obj)} {s : Shared} {σ : L2.St} {H : Hp} {A : Around} {E : Value → Shared → Prop} {us : List Value} {vs : List V} {ds : List D} {Q : VK} (I : Inv X pins σ H s) (rv : Vals vs us) (bk : BOk B H) (n : DenL X.K Z.r H B vs ds) (ok : srtOk ds = true) (hz : us.length ≤ sizeLine)
    (q : ∀ v H', Same H H' → Den X.K Z.r H' B v (.lst (sortD ds)) → (∃ p, v = .ref p ∧ H p = none) → Q v H') :
    wpAny (model X.prog X.w) A (newList us >>= fun out => (holding [out] (call (.builtin "list.sort") [out] []) >>= fun _ => ret out)) (fun fin s' => ∃ v, fin = PySem.Fin.done (Flow.ret v) ∧ EP X pins σ Q v s') E s := by
  refine wpAny_bind (wpAny_newList ?_ hz)
  have hoL : (s.heap.push (seqObj "list" us.toArray 0)).get? s.heap.objs.size = some (seqObj "list" us.toArray 0) := Heap.get?_push_size _ rfl
  have kk : ∀ b o, s.heap.get? b = some o → (s.heap.push (seqObj "list" us.toArray 0)).get? b = some o := fun b o e => Heap.get?_push_of_some _ e
  show wpAny _ _ _ _ _ { s with heap := s.heap.push (seqObj "list" us.toArray 0) }
  refine wpAny_bind (wpAny_holding (wpAny_call_entry PyProof.Rows.slot_list_sort ⟨_, hoL, rfl⟩ PyProof.Rows.entry_list_sort (SrtO.list_sort_ord (ltv := fun v u => ltKL (kf s.heap v) (kf s.heap u)) (s := { s with heap := s.heap.push (seqObj "list" us.toArray 0) }) (sto_KL.swo _) hoL hz (fun h2 => sortable_of I rv n ok h2 kk hoL) fun out h1 h2 => ⟨_, rfl, ?_⟩) (PyProof.Rows.args_list_sort _)))
  obtain ⟨vs', b1, b2, b3⟩ := srt_end I rv n ok (h0 := s.heap) (fun b o e => e) h1 h2.perm
  obtain ⟨e', he'⟩ := PyProof.Rows.sortedHeap_at (vs := us) (out := out.toArray) hoL
  have np : H s.heap.objs.size = none := I.hok.fresh (Nat.le_refl _)
  refine wpAny_pure ⟨_, rfl, .ref s.heap.objs.size, upd H s.heap.objs.size (.lst vs'), I.laid (t' := s.toks) (fun b u e => ?_) (Nat.le_refl _) (show ObjOk X.prog X.w _ _ _ (.lst vs') from ⟨?_, out, e', b1, he'⟩), rfl, q _ _ (same_upd np) (den_newL bk np b2) ⟨_, rfl, np⟩⟩
  · have hb : b < s.heap.objs.size := Heap.lt_size e
    rw [PyProof.Rows.sortedHeap_old (Nat.ne_of_lt hb) (by rw [size_push']; exact Nat.lt_succ_of_lt hb)]
    exact Heap.get?_push_of_some _ e
  · have l1 := rv.length
    have l2 := n.length
    omega
/-- sorted(d), d a dict -/
theorem sorted_dk {Z : Spc} {B : Addr → Prop} {pins : List (Addr × Obj)} {s : Shared} {σ : L2.St} {H : Hp} {a : Addr} {kvs : List (Key × V)} {ks : List Ky} {Q : VK} (hcalm : X.calm = true) (I : Inv X pins σ H s) (ha : H a = some (.dK kvs)) (hk : kvs.map (·.1) = ks.map Ky.k) (bk : BOk B H) (ok : srtOk (ks.map Ky.d) = true)
    (q : ∀ v H', Same H H' → Den X.K Z.r H' B v (.lst (sortD (ks.map Ky.d))) → (∃ p, v = .ref p ∧ H p = none) → Q v H') : wpAny (model X.prog X.w) X.A (call (.builtin "sorted") [.ref a]) (EP X pins σ Q) X.xe s := by
  obtain ⟨z, lo, vs, rel, dd⟩ := dk_rd I.hok (.inl ha)
  obtain ⟨ep, hat⟩ := dd.dictAt
  have h16 : vs.length ≤ sizeLine := by rw [← rel.length]; exact z
  refine Calls.call_function_entry PyProof.Rows.kind_sorted PyProof.Rows.plain_sorted PyProof.Rows.entry_sorted (PyProof.Rows.args_sorted1 _) ?_
  unfold Builtin.«sorted»
  refine wpAny_bind (m := checkCount "sorted" 1 1 _) (wpAny_pure ?_)
  refine wpAny_bind (PySem.W.kdu_collect (A := X.A.in1) (PySem.W.kdl_dict (knd := mixKind X.prog X.w) (kvs := vs) (ep := ep) lo) (I.ok.hd hcalm) hat h16 fun h' tk acc hkp hacc => ?_)
  have hv : Vals (vs.map fun p => kV p.1) acc.toList := keys_at (by rw [Array.length_toList]; exact hacc.1) fun j v e => hacc.2 j v (by rw [← Array.getElem?_toList]; exact e)
  have ek : (vs.map fun p => kV p.1) = (ks.map Ky.k).map kV := by
    rw [← hk, rel.keys, List.map_map]; rfl
  rw [ek] at hv
  have I1 : Inv X pins σ H { s with heap := h', toks := tk } := I.kept hkp
  exact sorted_acc (A := X.A.in1) I1 hv bk den_keys ok (by rw [← hv.length, ← ek, List.length_map]; exact h16) q
end
end TI
set_option Elab.async false
set_option linter.all false
set_option maxRecDepth 100000
set_option maxHeartbeats 4000000
/-! sets of ints and texts that are walked: only sorted(..) of them -/
namespace TI
open PySem PySem.Spec PyProof.Rows L2
def ktO (v : Value) : Ky := match v with
  | .int i _ => .i i
  | .str x _ => .s x.cps.toList
  | _ => .i 0
theorem S_cpsL (x : Str) : S x.cps.toList = x := by simp [S]
/-- an entry of the table: its key, its hash -/
def EntOk (w : World) (e : Int × Value) : Prop := keyIs (ktO e.2).k e.2 = true ∧ e.1 = keyH w (ktO e.2).k
theorem mem_one' {α : Type} {a b : α} (h : a ∈ [b]) : a = b := by simpa using h
theorem ent_mk (w : World) {k : Ky} {u : Value} (h : keyIs k.k u = true) : ktO u = k ∧ EntOk w (keyH w k.k, u) := by
  rcases keyIs_shape h with ⟨i, t, e, rfl⟩ | ⟨x, t, e, rfl⟩
  · cases k with
    | i n =>
      simp only [Ky.k, Sum.inl.injEq] at e
      subst e
      exact ⟨rfl, h, rfl⟩
    | s y => simp [Ky.k] at e
  · cases k with
    | i n => simp [Ky.k] at e
    | s y =>
      simp only [Ky.k, Sum.inr.injEq] at e
      subst e
      have e2 : ktO (.str (S y) t) = .s y := by simp [ktO, S]
      exact ⟨e2, by
        show keyIs (ktO (.str (S y) t)).k _ = true ∧ _ = keyH w (ktO (.str (S y) t)).k
        rw [e2]; exact ⟨h, rfl⟩⟩
/-- the set at a with the keys ks -/
def SetW (w : World) (h : Heap) (a : Addr) (ks : List Ky) : Prop :=
  ∃ o es ep t, h.get? a = some o ∧ o.ExactSet ∧ o.data = .set es ep t ∧ (∀ e ∈ es.toList, EntOk w e) ∧ (es.toList.map fun e => ktO e.2).Perm ks ∧ ks.Nodup ∧
    es.size < scanBound ∧ t.fits es.size = true ∧ Ris t.place.toList ∧ (w.params.followText "set-order" = true ∨ t.led = true)
theorem SetW.at {w : World} {h h' : Heap} {a : Addr} {ks : List Ky} (R : SetW w h a ks) (k : ∀ o, h.get? a = some o → h'.get? a = some o) : SetW w h' a ks := by
  obtain ⟨o, es, ep, t, ho, r⟩ := R
  exact ⟨o, es, ep, t, k o ho, r⟩
section
variable {P : Program} {w : World} {A : Around} {E : Value → Shared → Prop} {s : Shared} {a : Addr} {ks : List Ky}
theorem ent_elems {l : List (Int × Value)} (g : ∀ e ∈ l, EntOk w e) : ElemsOf (mixKind P w) l := fun e he => by
  obtain ⟨h1, h2⟩ := g e he
  refine ⟨⟨_, h1, h2⟩, ?_⟩
  rcases keyIs_shape h1 with ⟨i, t, _, e⟩ | ⟨x, t, _, e⟩ <;> rw [e] <;> rfl
theorem ent_is {e : Int × Value} (g : EntOk w e) (k : Ky) : keyIs k.k e.2 = true ↔ ktO e.2 = k := by
  constructor
  · intro h; exact (ent_mk w h).1
  · rintro rfl; exact g.1
theorem setW_tail {g : Bool → PySem.Sem Unit} (hg : ∀ (b : Bool) (s₁ : Shared) (Q' : Unit → Shared → Prop), Q' () s₁ → wpAny (model P w) A (g b) Q' E s₁)
    {o : Obj} {es : Array (Int × Value)} {ep : Nat} {t : SetTable} (ho : s.heap.get? a = some o) (hex : o.ExactSet) (hd : o.data = .set es ep t)
    {es1 : Array (Int × Value)} {t2 : SetTable} {ks' : List Ky} (g1 : ∀ e ∈ es1.toList, EntOk w e) (p1 : (es1.toList.map fun e => ktO e.2).Perm ks') (nd1 : ks'.Nodup)
    (hb1 : es1.size < scanBound) (hf2 : t2.fits es1.size = true) (hr : Ris t2.place.toList) (hl : w.params.followText "set-order" = true ∨ t2.led = true) {wasDummy : Bool} {R : Option Bool → Shared → Prop}
    (hR : ∀ h', Heap.SameBut a s.heap h' → SetW w h' a ks' → R (some true) { s with heap := h' }) :
    wpAny (model P w) A (do
        storeSet a es1 t2
        if (!wasDummy && t2.tooFull) = true then do
            g (relayAll t2 es1 (SetTable.grown es1.size)).2.2
            storeSet a (relayAll t2 es1 (SetTable.grown es1.size)).1 (relayAll t2 es1 (SetTable.grown es1.size)).2.1
            pure (some true)
          else pure (some true)) R E s := by
  refine wpAny_bind (wpAny_storeSet_of ho hd ?_ (fits_of_scanBound hb1))
  have ho1 := store_at (es' := es1) (t' := t2) ho hd
  have sb1 := Heap.SameBut.update s.heap a (Obj.putSet es1 t2)
  split
  · have pm := relayAll_perm t2 es1 (SetTable.grown es1.size)
    have hf3 := relayAll_fits t2 es1 (SetTable.grown es1.size)
    have hr3 := relayAll_ris t2 es1 (SetTable.grown es1.size)
    have hl3 := relayAll_led t2 es1 (SetTable.grown es1.size)
    generalize relayAll t2 es1 (SetTable.grown es1.size) = Z at pm hf3 hr3 hl3 ⊢
    obtain ⟨es2, t3, gave⟩ := Z
    dsimp only at pm hf3 hr3 hl3 ⊢
    have hsz : es2.size = es1.size := by rw [← Array.length_toList, pm.length_eq, Array.length_toList]
    have hb2 : es2.size < scanBound := by rw [hsz]; exact hb1
    refine wpAny_bind (hg _ _ _ ?_)
    refine wpAny_bind (wpAny_storeSet_of ho1 rfl ?_ (fits_of_scanBound hb2))
    have ho2 := store_at (es' := es2) (t' := t3) ho1 rfl
    refine wpAny_pure (hR _ (sb1.trans (Heap.SameBut.update _ a _)) ?_)
    exact ⟨_, es2, _, t3, ho2, hex, rfl, fun e he => g1 e (pm.mem_iff.mp he), (pm.map _).trans p1, nd1, hb2, hf3, hr3, hl.imp id fun z => by rw [hl3]; exact z⟩
  · exact wpAny_pure (hR _ sb1 ⟨_, es1, _, t2, ho1, hex, rfl, g1, p1, nd1, hb1, hf2, hr, hl⟩)
theorem setW_add {k : Ky} {u : Value} {Q : Value → Shared → Prop} (hu : RelV (kV k.k) u) (R : SetW w s.heap a ks) (room : ks.length + 1 < scanBound)
    (hQ : ∀ h', Heap.SameBut a s.heap h' → SetW w h' a (addK ks k) → Q .none { s with heap := h', toks := s.toks + 1 }) :
    wpAny (model P w) A (call (.builtin "set.add") [.ref a, u]) Q E s := by
  have hkey : (mixKind P w).is k.k u = true := kV_is hu
  have hsc : u.scannable = true := key_scan hu
  obtain ⟨o, es, ep, t, ho, hex, hd, g, pm0, nd, hb, hf, hr, hl⟩ := R
  have hT : s.TypeIs (.ref a) "set" := ⟨o, ho, hex.1⟩
  refine wpAny_call_entry PySem.F.slot_set_add hT PySem.F.entry_set_add ?_ (PySem.F.args_set_add_2 _ _)
  unfold Builtin.«set.add» Builtin.Frozenset.oneOther
  simp only [List.isEmpty_nil, bind_assoc]
  unfold Builtin.Frozenset.addrOf setAdd
  refine wpAny_bind (wpAny_pure ?_)
  try dsimp only
  refine wpAny_bind (wpAny_pure ?_)
  try dsimp only
  refine wpAny_bind ?_
  refine wpAny_holding ?_
  refine wpAny_bind ((mixKind P w).pyHash hkey ?_)
  have back : ∀ {b : Bool} {h' : Heap} {A' : Around}, Q .none { s with heap := h', toks := s.toks + 1 } → wpAny (model P w) A' (ret Value.none) (fun fin s' => ∃ v, fin = PySem.Fin.done (Flow.ret v) ∧ Q v s') E { s with heap := h', toks := s.toks + 1 } := fun {b h' A'} q => wpAny_pure ⟨_, rfl, q⟩
  have hel : ElemsOf (mixKind P w) es.toList := ent_elems g
  have mem : k ∈ ks ↔ ∃ e ∈ es.toList, (mixKind P w).is k.k e.2 = true := by
    rw [← pm0.mem_iff, List.mem_map]
    constructor
    · rintro ⟨e, he, q⟩; exact ⟨e, he, (ent_is (g e he) k).mpr q⟩
    · rintro ⟨e, he, q⟩; exact ⟨e, he, (ent_is (g e he) k).mp q⟩
  unfold setAddHashed setAddHashedIn
  refine wpAny_holding (wpAny_bind (wpAny_setState_of (s := { s with toks := s.toks + 1 }) ho hd hf ?_))
  dsimp only
  rw [byScan_of hsc hb hel]
  simp only [↓reduceIte]
  unfold setAddByScan
  refine wpAny_bind ?_
  refine wpAny_bind (wpAny_rule ?_)
  refine wpAny_bind (wpAny_setScan_of hkey ho hd hf hel ?_)
  cases hfi : List.findIdx? (fun e => (mixKind P w).is k.k e.2) es.toList with
  | some j =>
    dsimp only
    obtain ⟨hj, pj, _⟩ := List.findIdx?_eq_some_iff_getElem.mp hfi
    have hk : k ∈ ks := mem.mpr ⟨es.toList[j], List.getElem_mem hj, pj⟩
    refine wpAny_pure (wpAny_pure ?_)
    refine back (b := true) (h' := s.heap) ?_
    refine hQ s.heap (Heap.SameBut.refl a s.heap) ?_
    unfold addK
    rw [if_pos hk]
    exact ⟨o, es, ep, t, ho, hex, hd, g, pm0, nd, hb, hf, hr, hl⟩
  | none =>
    dsimp only
    have hnk : k ∉ ks := fun z => by
      obtain ⟨e, he, q⟩ := mem.mp z
      have c := List.findIdx?_eq_none_iff.mp hfi e he
      rw [q] at c
      cases c
    have hgw : ∀ (b : Bool) {A' : Around} {s₁ : Shared} {Q' : Unit → Shared → Prop}, Q' () s₁ → wpAny (model P w) A' (match b with | true => rule "set.scan.the-table-gave-way" | false => pure ()) Q' E s₁ :=
      fun b A' s₁ Q' q => by cases b <;> first | exact wpAny_pure q | exact wpAny_rule q
    have pm := layNew_perm t es ((mixKind P w).hash k.k) u
    have hf1 := layNew_fits t es ((mixKind P w).hash k.k) u
    have hr1 := layNew_ris t es ((mixKind P w).hash k.k) u hr
    have hl1 := layNew_led t es ((mixKind P w).hash k.k) u
    generalize layNew t es ((mixKind P w).hash k.k) u = Z at pm hf1 hr1 hl1 ⊢
    obtain ⟨es1, t1, wasDummy, gave⟩ := Z
    dsimp only at pm hf1 hr1 hl1 ⊢
    rw [Array.toList_push] at pm
    obtain ⟨ek, eo⟩ := ent_mk w (k := k) hkey
    have g1 : ∀ e ∈ es1.toList, EntOk w e := fun e he => by
      rcases List.mem_append.mp (pm.mem_iff.mp he) with z | z
      · exact g e z
      · obtain rfl := mem_one' z
        exact eo
    have pk : (es1.toList.map fun e => ktO e.2).Perm (ks ++ [k]) := by
      have q := pm.map fun e : Int × Value => ktO e.2
      rw [List.map_append, List.map_cons, List.map_nil] at q
      rw [show ktO ((mixKind P w).hash k.k, u).2 = k from ek] at q
      exact q.trans (pm0.append_right [k])
    have nd1 : (ks ++ [k]).Nodup := by
      rw [List.nodup_append]
      exact ⟨nd, by simp, fun x hx y hy => by
        obtain rfl : y = k := by simpa using hy
        exact fun z => hnk (z ▸ hx)⟩
    have hsz : es1.size = ks.length + 1 := by
      have := pk.length_eq
      rw [List.length_map, Array.length_toList, List.length_append, List.length_singleton] at this
      exact this
    have hb1 : es1.size < scanBound := by rw [hsz]; exact room
    have hled : w.params.followText "set-order" = true ∨ t1.led = true := hl.imp id fun z => by rw [hl1]; exact z
    have ea : addK ks k = ks ++ [k] := if_neg hnk
    rw [ea] at hQ
    refine wpAny_bind (hgw _ ?_)
    split
    · refine wpAny_bind ?_
      rw [hashByValue_scannable 8 hsc]
      refine wpAny_pure ?_
      refine setW_tail (s := { s with toks := s.toks + 1 }) ?_ ho hex hd g1 pk nd1 hb1 ?_ ?_ ?_ ?_
      · intro b s₁ Q' q; cases b <;> first | exact wpAny_pure q | exact wpAny_rule q
      · first | (split <;> first | exact hf1 | exact SetTable.fits_plain_off hf1) | exact hf1
      · first | (split <;> exact hr1) | exact hr1
      · first | (split <;> exact hled) | exact hled
      · intro h' sb r; dsimp only; exact wpAny_pure (back (b := true) (hQ h' sb r))
    · refine wpAny_bind (wpAny_pure ?_)
      simp only [↓reduceIte]
      refine setW_tail (s := { s with toks := s.toks + 1 }) ?_ ho hex hd g1 pk nd1 hb1 hf1 hr1 hled ?_
      · intro b s₁ Q' q; cases b <;> first | exact wpAny_pure q | exact wpAny_rule q
      · intro h' sb r; dsimp only; exact wpAny_pure (back (b := true) (hQ h' sb r))
theorem setW_fresh {h : Heap} (w : World) : SetW w (h.push { cls := .type "set", dict := none, data := .set #[] 0 (.fresh 0 0 (!w.params.followText "set-order")) }) h.objs.size [] :=
  ⟨_, #[], 0, _, Heap.get?_push_size _ rfl, ⟨rfl, rfl, rfl⟩, rfl, by simp, by simp, .nil, by decide, rfl, .nil, by
    cases e : w.params.followText "set-order" with
    | true => exact .inl rfl
    | false => exact .inr rfl⟩
end
/-- the set as a thing of the heap -/
def SetX (w : World) (a : Addr) (ks : List Ky) : HO := .ext fun h => SetW w h a ks
section
variable {X : Cx}
theorem setX_new {w : World} {P : Program} {H : Hp} {h : Heap} {a : Addr} {ks : List Ky} (R : SetW w h a ks) : ObjOk P w H h a (SetX w a ks) := by
  have ⟨o, _, _, _, ho, _⟩ := R
  exact ⟨R, ⟨o, ho⟩, fun h1 h2 p k => SetW.at p k⟩
theorem setX_get {pins : List (Addr × Obj)} {σ : L2.St} {H : Hp} {s : Shared} {a : Addr} {ks : List Ky} (I : Inv X pins σ H s) (ha : H a = some (SetX X.w a ks)) : SetW X.w s.heap a ks := (I.hok a _ ha).1
theorem addX_ok {pins : List (Addr × Obj)} {σ : L2.St} {H : Hp} {s : Shared} {E : Value → Shared → Prop} {a : Addr} {ks : List Ky} {k : Ky} {u : Value} {Q : Value → Shared → Prop} (I : Inv X pins σ H s) (ha : H a = some (SetX X.w a ks)) (hu : RelV (kV k.k) u) (room : ks.length + 1 < scanBound)
    (h : ∀ s', Inv X pins σ (upd H a (SetX X.w a (addK ks k))) s' → Q .none s') : wpAny (model X.prog X.w) X.A (call (.builtin "set.add") [.ref a, u]) Q E s := by
  refine setW_add hu (setX_get I ha) room fun h' sb new => ?_
  have he : ∃ u, h'.get? a = some u := by
    have ⟨o, _, _, _, ho, _⟩ := new
    exact ⟨o, ho⟩
  exact h _ (I.write (e := a) (t' := s.toks + 1) (by rw [ha]; trivial) (.inl rfl) (fun b u hb hu => (sb.2 b hb).trans hu) he (setX_new new))
end
end TI
set_option Elab.async false
set_option linter.all false
set_option maxRecDepth 100000
set_option maxHeartbeats 4000000
namespace TI
open PySem PySem.Spec PyProof.Rows L2
section
variable {X : Cx} {Z : Spc}
/-- d[y] by values -/
theorem ix_dict (hu : X.A.units + 1 < cLine) : IxR X (fun x y H Q => ∃ a v, x = .ref a ∧ DGet H a y (some v) ∧ Q v H) := by
  intro value slice pins s σ H x y v u Q I rx ry h hs
  obtain ⟨a, w, rfl, g, q⟩ := h
  obtain rfl : v = Value.ref a := rx
  have hT := dict_typeIs I g
  unfold subscriptTail
  refine wpAny_bind ?_
  rw [getitemInPython_of_ne hT.not_modules]
  refine wpAny_bind (wpAny_specialOf hT PySem.F.slot_dict_getitem.lookup ?_)
  have fin : wpAny (model X.prog X.w) X.A (subscripted slice false (.ref a) u) (fun r s₃ => wpAny (model X.prog X.w) X.A (letTemporaryGo value (.ref a) r >>= fun _ => pure r) (EP X pins σ Q) X.xe s₃) X.xe s := by
    rw [hs]
    exact wpAny_operating (wpAny_mono (d_getItem (Q := EP X pins σ Q) (E := X.xe) hu I g ry fun w' s' I' r' => ⟨w, H, I', r', q⟩) (fun r s₃ h₃ => wpAny_bind (wpAny_letTemporaryGo (wpAny_pure h₃))) fun _ _ x => x)
  first
    | exact wpAny_pure (wpAny_bind fin)
    | exact wpAny_bind (wpAny_pure (wpAny_bind fin))
    | exact wpAny_bind fin
theorem ixr_sub (hu : X.A.units + 200 < cLine) : IxR X (rV2 X.K Z subD) := by
  intro value slice pins s σ H x y v u Q I rx ry h hs
  obtain ⟨B, d1, d2, d, g, h1, h2, bk, e, q⟩ := h
  unfold subD at e
  split at e
  · rename_i xs i
    obtain ⟨a, vs, rfl, e1, n1, l1⟩ := lst_of h1
    cases h2
    obtain ⟨e, _⟩ := opt_ok e
    obtain ⟨z, ez, hz⟩ := atI_den l1 e
    exact ix_list value slice pins s σ H _ _ v u Q I rx ry ⟨_, _, _, _, rfl, rfl, SqL.of e1, ez, q _ _ (Same.refl H) hz⟩ hs
  · rename_i xs i
    obtain ⟨a, vs, rfl, e1, l1⟩ := sqT_tup h1
    cases h2
    obtain ⟨e, _⟩ := opt_ok e
    obtain ⟨z, ez, hz⟩ := atI_den l1 e
    exact ix_tup value slice pins s σ H _ _ v u Q I rx ry ⟨_, _, _, _, rfl, rfl, SqT.of e1, ez, q _ _ (Same.refl H) hz⟩ hs
  · rename_i t i
    cases h1; cases h2
    obtain ⟨c, e⟩ := grd_ok e
    have c := of_decide_eq_true c
    rw [line_eq] at c
    cases ez : atI t i with
    | none => simp only [ez] at e; exact (stk_ok e).elim
    | some z =>
      simp only [ez] at e
      obtain ⟨rfl, _⟩ := pure_ok e
      exact ix_str value slice pins s σ H _ _ v u Q I rx ry ⟨_, _, z, rfl, rfl, by rw [S_len]; exact c, by rw [S_cps]; exact ez, q _ _ (Same.refl H) (.str [z])⟩ hs
  · cases hk : kyOf d2 with
    | none => simp only [hk] at e; exact (stk_ok e).elim
    | some k =>
      simp only [hk] at e
      obtain ⟨e, _⟩ := opt_ok e
      obtain ⟨p, o, rfl, g1, g2, g3⟩ := dget_K h1 h2 hk
      rw [e] at g3
      obtain ⟨w, rfl, hw⟩ := g3
      exact ix_dict (by omega) value slice pins s σ H _ _ v u Q I rx ry ⟨_, _, rfl, g1, q _ _ (Same.refl H) hw⟩ hs
  · cases hk : kyT d2 with
    | none => simp only [hk] at e; exact (stk_ok e).elim
    | some k =>
      simp only [hk] at e
      obtain ⟨e, _⟩ := opt_ok e
      obtain ⟨p, o, rfl, g1, g2, g3⟩ := dget_T h1 h2 hk
      rw [e] at g3
      obtain ⟨w, rfl, hw⟩ := g3
      exact ix_dict (by omega) value slice pins s σ H _ _ v u Q I rx ry ⟨_, _, rfl, g1, q _ _ (Same.refl H) hw⟩ hs
  · exact (stk_ok e).elim

def rSlD (K : PySem.W.Frag) (Z : Spc) : V → Option Int → Option Int → Hp → VK → Prop := fun x lo hi H Q => ∃ B d1 d g, Den K Z.r H B x d1 ∧ BOk B H ∧ slcD d1 lo hi g = .ok d g ∧ ∀ v H', Same H H' → Den K Z.r H' B v d → Q v H'
theorem whole_cut {α : Type} {xs : List α} {lo hi : Option Int} (h : HT.sIx xs.length 0 lo = 0 ∧ HT.sIx xs.length xs.length hi = xs.length) : cutL xs lo hi = xs := by
  unfold cutL
  rw [h.1, h.2]
  simp
theorem slr_slc : SlR X (rSlD X.K Z) := by
  intro pins s σ H x v vl vu lo hi sl Q I rx hs pl pu h
  obtain ⟨B, d1, d, g, h1, bk, e, q⟩ := h
  unfold slcD at e
  split at e
  · cases h1
    obtain ⟨c, e⟩ := grd_ok e
    obtain ⟨rfl, _⟩ := pure_ok e
    have c := of_decide_eq_true c
    rw [line_eq] at c
    exact sl_str pins s σ H _ v vl vu lo hi sl Q I rx hs pl pu ⟨_, rfl, by rw [S_len]; exact c, by rw [cutS_cut]; exact q _ _ (Same.refl H) (.str _)⟩
  · obtain ⟨rfl, _⟩ := pure_ok e
    obtain ⟨a, vs, rfl, e1, n1, l1⟩ := lst_of h1
    exact sl_list pins s σ H _ v vl vu lo hi sl Q I rx hs pl pu ⟨_, _, rfl, SqL.of e1, fun p np => q _ _ (same_upd np) (den_newL bk np (l1.cut _ _))⟩
  · obtain ⟨rfl, _⟩ := pure_ok e
    obtain ⟨a, vs, rfl, e1, l1⟩ := sqT_tup h1
    refine sl_tupA pins s σ H _ v vl vu lo hi sl Q I rx hs pl pu ⟨_, _, rfl, SqT.of e1, fun z => ?_, fun z p np => q _ _ (same_upd np) (den_newT bk np (l1.cut _ _))⟩
    rw [l1.length] at z
    rw [whole_cut z] at q
    exact q _ _ (Same.refl H) h1
  · exact (stk_ok e).elim

/-! ### built-ins by values -/
def rVL (K : PySem.W.Frag) (Z : Spc) (fr : Bool) (f : List D → M D) : List V → Hp → VK → Prop := fun vs H Q => ∃ B ds d g, DenL K Z.r H B vs ds ∧ BOk B H ∧ f ds g = .ok d g ∧ ∀ v H', Same H H' → Den K Z.r H' B v d → (fr = true → ∃ p, v = .ref p ∧ H p = none) → Q v H'
theorem ints_of : ∀ {ds : List D} {ns : List Int}, intsOf ds = some ns → ds = ns.map D.int
  | [], ns, h => by cases h; rfl
  | d :: ds, ns, h => by
    unfold intsOf at h
    split at h
    · rename_i q; cases q
    · rename_i i ds' q
      cases q
      cases e : intsOf ds with
      | none => rw [e] at h; cases h
      | some ms => rw [e] at h; cases h; rw [ints_of e]; rfl
    · cases h
theorem bls_of : ∀ {ds : List D} {ns : List Bool}, blsOf ds = some ns → ds = ns.map D.bl
  | [], ns, h => by cases h; rfl
  | d :: ds, ns, h => by
    unfold blsOf at h
    split at h
    · rename_i q; cases q
    · rename_i i ds' q
      cases q
      cases e : blsOf ds with
      | none => rw [e] at h; cases h
      | some ms => rw [e] at h; cases h; rw [bls_of e]; rfl
    · cases h
theorem strs_of : ∀ {ds : List D} {ns : List (List Nat)}, strsOf ds = some ns → ds = ns.map D.str
  | [], ns, h => by cases h; rfl
  | d :: ds, ns, h => by
    unfold strsOf at h
    split at h
    · rename_i q; cases q
    · rename_i i ds' q
      cases q
      cases e : strsOf ds with
      | none => rw [e] at h; cases h
      | some ms => rw [e] at h; cases h; rw [strs_of e]; rfl
    · cases h
theorem maxI_spec : ∀ (ns : List Int) (m : Int), maxI m ns ∈ m :: ns ∧ ∀ y ∈ m :: ns, y ≤ maxI m ns
  | [], m => by simp [maxI]
  | n :: ns, m => by
    simp only [maxI]
    have hx : ∀ x, x = (if m < n then n else m) → (x = n ∨ x = m) ∧ m ≤ x ∧ n ≤ x := fun x e => by
      split at e <;> omega
    generalize hz : (if m < n then n else m) = x
    obtain ⟨e1, e2, e3⟩ := hx x hz.symm
    obtain ⟨h1, h2⟩ := maxI_spec ns x
    have hb := h2 x List.mem_cons_self
    constructor
    · rcases List.mem_cons.mp h1 with e | e
      · rw [e]; rcases e1 with rfl | rfl <;> simp
      · exact List.mem_cons_of_mem _ (List.mem_cons_of_mem _ e)
    · intro y hy
      rcases List.mem_cons.mp hy with rfl | hy
      · omega
      · rcases List.mem_cons.mp hy with rfl | hy
        · omega
        · exact h2 y (List.mem_cons_of_mem _ hy)
theorem minI_spec : ∀ (ns : List Int) (m : Int), minI m ns ∈ m :: ns ∧ ∀ y ∈ m :: ns, minI m ns ≤ y
  | [], m => by simp [minI]
  | n :: ns, m => by
    simp only [minI]
    have hx : ∀ x, x = (if n < m then n else m) → (x = n ∨ x = m) ∧ x ≤ m ∧ x ≤ n := fun x e => by
      split at e <;> omega
    generalize hz : (if n < m then n else m) = x
    obtain ⟨e1, e2, e3⟩ := hx x hz.symm
    obtain ⟨h1, h2⟩ := minI_spec ns x
    have hb := h2 x List.mem_cons_self
    constructor
    · rcases List.mem_cons.mp h1 with e | e
      · rw [e]; rcases e1 with rfl | rfl <;> simp
      · exact List.mem_cons_of_mem _ (List.mem_cons_of_mem _ e)
    · intro y hy
      rcases List.mem_cons.mp hy with rfl | hy
      · omega
      · rcases List.mem_cons.mp hy with rfl | hy
        · omega
        · exact h2 y (List.mem_cons_of_mem _ hy)
theorem den1 {K : PySem.W.Frag} {r : Addr} {H : Hp} {B : Addr → Prop} {vs : List V} {d : D} (h : DenL K r H B vs [d]) : ∃ v, vs = [v] ∧ Den K r H B v d := by
  cases h with
  | cons h1 h2 => cases h2; exact ⟨_, rfl, h1⟩
theorem den2 {K : PySem.W.Frag} {r : Addr} {H : Hp} {B : Addr → Prop} {vs : List V} {d e : D} (h : DenL K r H B vs [d, e]) : ∃ v w, vs = [v, w] ∧ Den K r H B v d ∧ Den K r H B w e := by
  cases h with
  | cons h1 h2 =>
    obtain ⟨w, rfl, h3⟩ := den1 h2
    exact ⟨_, _, rfl, h1, h3⟩
theorem len_dK {pins : List (Addr × Obj)} {s : Shared} {σ : L2.St} {H : Hp} {a : Addr} {kvs : List (Key × V)} {Q : VK} (I : Inv X pins σ H s) (h : H a = some (.dK kvs)) (q : Q (.int kvs.length) H) :
    wpAny (model X.prog X.w) X.A (call (.builtin "len") [.ref a]) (EP X pins σ Q) X.xe s :=
  call_lenD pins s σ H [.ref a] [.ref a] Q I (.cons rfl .nil) ⟨a, kvs, rfl, h, q⟩
theorem sum_tupG {prog : Program} {w : World} {A : Around} {E : Value → Shared → Prop} {s : Shared} {l : Addr} {its : List Value} {ns : List Int} {Q : Value → Shared → Prop} (hh : A.handled = none) (hl : s.heap.IsTuple l its.toArray) (hi : IntsAre its ns)
    (h : ∀ h' tk t', (∀ b o, s.heap.get? b = some o → h'.get? b = some o) → Q (.int ns.sum t') { s with heap := h', toks := tk }) : wpAny (model prog w) A (call (.builtin "sum") [.ref l]) Q E s := by
  obtain ⟨xs, e⟩ := hi.allInts.items
  have hn : numsOf (intItems xs).toList = ns := by rw [← e]; exact hi.numsOf
  rw [nums_intItems] at hn
  rw [e] at hl
  have hlt : l < s.heap.objs.size := by obtain ⟨_, e, _⟩ := hl; exact Heap.lt_size e
  have old : ∀ {h' : Heap}, (∀ b o, b ∉ [s.heap.objs.size] → (s.heap.push { cls := .type "tuple_iterator", data := .fields #[.ref l, .int 0 0] }).get? b = some o → h'.get? b = some o) → ∀ b o, s.heap.get? b = some o → h'.get? b = some o := fun {h'} hk b o e => by
    refine hk b o (fun hm => ?_) (Heap.get?_push_of_some _ e)
    obtain rfl := mem_one' hm
    exact absurd (Heap.lt_size e) (Nat.lt_irrefl _)
  refine call_sum_walkG (wpAny_pyIter_tuple hl ?_)
  refine ⟨_, [_, l], [_], _, _, _, numAt xs, rfl, Walks.tuple (A := A.in1) hh _ l (Nat.ne_of_lt hlt) (intItems xs), ⟨⟨_, Heap.get?_push_size _ rfl, rfl, rfl⟩, hl.push _⟩, fun b hb => ?_, (fun _ _ => intItems_at), fun h' tk t' hk => ?_⟩
  · show b < (s.heap.push _).objs.size
    rw [Heap.size_push]
    rcases List.mem_cons.mp hb with rfl | hb
    · exact Nat.lt_succ_self _
    · obtain rfl := mem_one' hb
      exact Nat.lt_succ_of_lt hlt
  · have := h h' tk t' (old hk)
    rw [show ns.sum = preSum (numAt xs) (intItems xs).size from by rw [preSum_eq, List.take_of_length_le (by simp [intItems]), hn]] at this
    exact this
def Bl.val : Bl → Value
  | .len => .builtin "len" | .sum => .builtin "sum" | .max => .builtin "max" | .min => .builtin "min" | .abs => .builtin "abs" | .int => .type "int" | .tuple => .type "tuple" | .list => .type "list" | .any => .builtin "any" | .all => .builtin "all" | .ord => .builtin "ord" | .sorted => .builtin "sorted"
def Bl.fresh : Bl → Bool
  | .list | .sorted => true
  | _ => false
theorem callr_blt (hc : X.calm = true) (b : Bl) : CallR X b.val (rVL X.K Z b.fresh (bltD b)) := by
  intro pins s σ H vs us Q I rs h
  obtain ⟨B, ds, d, g, h1, bk, e, q⟩ := h
  have nf : b.fresh = false → ∀ v H', Same H H' → Den X.K Z.r H' B v d → Q v H' := fun z v H' a b => q v H' a b fun y => by rw [z] at y; cases y
  unfold bltD at e
  split at e
  case h_1 t =>
    obtain ⟨v, rfl, k1⟩ := den1 h1
    cases k1
    obtain ⟨c, e⟩ := grd_ok e
    obtain ⟨rfl, _⟩ := pure_ok e
    have c := of_decide_eq_true c
    rw [line_eq] at c
    exact call_len pins s σ H _ us Q I rs ⟨_, _, rfl, ⟨by rw [S_len]; exact c, rfl⟩, by rw [S_len]; exact nf rfl _ _ (Same.refl H) (.int _)⟩
  case h_2 xs =>
    obtain ⟨v, rfl, k1⟩ := den1 h1
    obtain ⟨a, ws, rfl, e1, n1, l1⟩ := lst_of k1
    obtain ⟨rfl, _⟩ := pure_ok e
    exact call_len pins s σ H _ us Q I rs ⟨_, _, rfl, .inl ⟨_, SqL.of e1, rfl⟩, by rw [l1.length]; exact nf rfl _ _ (Same.refl H) (.int _)⟩
  case h_3 xs =>
    obtain ⟨v, rfl, k1⟩ := den1 h1
    obtain ⟨a, ws, rfl, e1, l1⟩ := sqT_tup k1
    obtain ⟨rfl, _⟩ := pure_ok e
    exact call_len pins s σ H _ us Q I rs ⟨_, _, rfl, .inr ⟨_, SqT.of e1, rfl⟩, by rw [l1.length]; exact nf rfl _ _ (Same.refl H) (.int _)⟩
  case h_4 ks vs' =>
    obtain ⟨v, rfl, k1⟩ := den1 h1
    obtain ⟨rfl, _⟩ := pure_ok e
    cases k1 with
    | dK k2 n1 e1 l1 =>
      have := congrArg List.length e1
      rw [List.length_map, List.length_map] at this
      exact call_lenD pins s σ H _ us Q I rs ⟨_, _, rfl, k2, by rw [this]; exact nf rfl _ _ (Same.refl H) (.int _)⟩
  case h_5 xs =>
    obtain ⟨v, rfl, k1⟩ := den1 h1
    obtain ⟨a, ws, rfl, e1, n1, l1⟩ := lst_of k1
    cases en : intsOf xs with
    | none => simp only [en] at e; exact (stk_ok e).elim
    | some ns =>
      simp only [en] at e
      obtain ⟨rfl, _⟩ := pure_ok e
      cases ints_of en
      rw [l1.ints] at e1
      exact cr_sum hc pins s σ H _ us Q I rs ⟨_, _, rfl, SqL.of e1, nf rfl _ _ (Same.refl H) (.int _)⟩
  case h_6 xs =>
    obtain ⟨v, rfl, k1⟩ := den1 h1
    obtain ⟨a, ws, rfl, e1, n1, l1⟩ := lst_of k1
    cases en : intsOf xs with
    | none => simp only [en] at e; exact (stk_ok e).elim
    | some ns =>
      cases ns with
      | nil => simp only [en] at e; exact (stk_ok e).elim
      | cons n ns =>
        simp only [en] at e
        obtain ⟨rfl, _⟩ := pure_ok e
        cases ints_of en
        rw [l1.ints] at e1
        refine cr_max hc pins s σ H _ us Q I rs ⟨_, _, rfl, SqL.of e1, by simp, fun m hm hM => ?_⟩
        obtain ⟨m1, m2⟩ := maxI_spec ns n
        have : m = maxI n ns := Int.le_antisymm (m2 m hm) (hM _ m1)
        rw [this]
        exact nf rfl _ _ (Same.refl H) (.int _)
  case h_7 xs =>
    obtain ⟨v, rfl, k1⟩ := den1 h1
    obtain ⟨a, ws, rfl, e1, n1, l1⟩ := lst_of k1
    cases en : intsOf xs with
    | none => simp only [en] at e; exact (stk_ok e).elim
    | some ns =>
      cases ns with
      | nil => simp only [en] at e; exact (stk_ok e).elim
      | cons n ns =>
        simp only [en] at e
        obtain ⟨rfl, _⟩ := pure_ok e
        cases ints_of en
        rw [l1.ints] at e1
        refine cr_min hc pins s σ H _ us Q I rs ⟨_, _, rfl, SqL.of e1, by simp, fun m hm hM => ?_⟩
        obtain ⟨m1, m2⟩ := minI_spec ns n
        have : m = minI n ns := Int.le_antisymm (hM _ m1) (m2 m hm)
        rw [this]
        exact nf rfl _ _ (Same.refl H) (.int _)
  case h_8 i j =>
    obtain ⟨v, w, rfl, k1, k2⟩ := den2 h1
    cases k1; cases k2
    obtain ⟨rfl, _⟩ := pure_ok e
    exact call_max2 hc pins s σ H _ us Q I rs ⟨_, _, rfl, nf rfl _ _ (Same.refl H) (.int _)⟩
  case h_9 i j =>
    obtain ⟨v, w, rfl, k1, k2⟩ := den2 h1
    cases k1; cases k2
    obtain ⟨rfl, _⟩ := pure_ok e
    exact call_min2 hc pins s σ H _ us Q I rs ⟨_, _, rfl, nf rfl _ _ (Same.refl H) (.int _)⟩
  case h_10 i =>
    obtain ⟨v, rfl, k1⟩ := den1 h1
    cases k1
    obtain ⟨rfl, _⟩ := pure_ok e
    exact call_abs pins s σ H _ us Q I rs ⟨_, rfl, nf rfl _ _ (Same.refl H) (.int _)⟩
  case h_11 i =>
    obtain ⟨v, rfl, k1⟩ := den1 h1
    cases k1
    obtain ⟨rfl, _⟩ := pure_ok e
    exact call_int1 pins s σ H _ us Q I rs (.inl ⟨_, rfl, nf rfl _ _ (Same.refl H) (.int _)⟩)
  case h_12 k =>
    obtain ⟨v, rfl, k1⟩ := den1 h1
    cases k1
    obtain ⟨rfl, _⟩ := pure_ok e
    exact call_int1 pins s σ H _ us Q I rs (.inr ⟨_, rfl, nf rfl _ _ (Same.refl H) (.int _)⟩)
  case h_13 xs =>
    obtain ⟨v, rfl, k1⟩ := den1 h1
    obtain ⟨a, ws, rfl, e1, n1, l1⟩ := lst_of k1
    obtain ⟨rfl, _⟩ := pure_ok e
    exact call_tuple_of pins s σ H _ us Q I rs ⟨_, _, rfl, .inl ⟨SqL.of e1, fun p np => nf rfl _ _ (same_upd np) (den_newT bk np l1)⟩⟩
  case h_14 xs =>
    obtain ⟨v, rfl, k1⟩ := den1 h1
    obtain ⟨a, ws, rfl, e1, l1⟩ := sqT_tup k1
    obtain ⟨rfl, _⟩ := pure_ok e
    exact call_tuple_of pins s σ H _ us Q I rs ⟨_, _, rfl, .inr ⟨SqT.of e1, nf rfl _ _ (Same.refl H) k1⟩⟩
  case h_15 xs =>
    obtain ⟨v, rfl, k1⟩ := den1 h1
    obtain ⟨a, ws, rfl, e1, n1, l1⟩ := lst_of k1
    obtain ⟨rfl, _⟩ := pure_ok e
    exact call_list_of pins s σ H _ us Q I rs ⟨_, _, rfl, .inl (SqL.of e1), fun p np => q _ _ (same_upd np) (den_newL bk np l1) fun _ => ⟨p, rfl, np⟩⟩
  case h_16 xs =>
    obtain ⟨v, rfl, k1⟩ := den1 h1
    obtain ⟨a, ws, rfl, e1, l1⟩ := sqT_tup k1
    obtain ⟨rfl, _⟩ := pure_ok e
    exact call_list_of pins s σ H _ us Q I rs ⟨_, _, rfl, .inr (SqT.of e1), fun p np => q _ _ (same_upd np) (den_newL bk np l1) fun _ => ⟨p, rfl, np⟩⟩
  case h_17 xs =>
    obtain ⟨v, rfl, k1⟩ := den1 h1
    obtain ⟨a, ws, rfl, e1, n1, l1⟩ := lst_of k1
    cases en : blsOf xs with
    | none => simp only [en] at e; exact (stk_ok e).elim
    | some ns =>
      simp only [en] at e
      obtain ⟨rfl, _⟩ := pure_ok e
      cases bls_of en
      rw [l1.bls] at e1
      exact cr_any hc pins s σ H _ us Q I rs ⟨_, _, rfl, SqL.of e1, nf rfl _ _ (Same.refl H) (.bl _)⟩
  case h_18 xs =>
    obtain ⟨v, rfl, k1⟩ := den1 h1
    obtain ⟨a, ws, rfl, e1, n1, l1⟩ := lst_of k1
    cases en : blsOf xs with
    | none => simp only [en] at e; exact (stk_ok e).elim
    | some ns =>
      simp only [en] at e
      obtain ⟨rfl, _⟩ := pure_ok e
      cases bls_of en
      rw [l1.bls] at e1
      exact cr_all hc pins s σ H _ us Q I rs ⟨_, _, rfl, SqL.of e1, nf rfl _ _ (Same.refl H) (.bl _)⟩
  case h_19 c =>
    obtain ⟨v, rfl, k1⟩ := den1 h1
    cases k1
    obtain ⟨rfl, _⟩ := pure_ok e
    refine call_ord pins s σ H _ us Q I rs ⟨_, rfl, by simp [S, Str.length], ?_⟩
    have : (S [c]).cps.getD 0 0 = c := rfl
    rw [this]
    exact nf rfl _ _ (Same.refl H) (.int _)
  case h_20 xs =>
    obtain ⟨v, rfl, k1⟩ := den1 h1
    obtain ⟨a, ws, rfl, e1, l1⟩ := sqT_tup k1
    cases en : intsOf xs with
    | none => simp only [en] at e; exact (stk_ok e).elim
    | some ns =>
      simp only [en] at e
      obtain ⟨rfl, _⟩ := pure_ok e
      cases ints_of en
      rw [l1.ints] at e1
      obtain rfl := Vals.ref1 rs
      obtain ⟨its, rv, p', hz⟩ := I.tuple (SqT.of e1)
      refine sum_tupG (I.ok.hd hc) (show s.heap.IsTuple a its.toArray from p') rv.ints fun h' tk t' hk => ?_
      exact ⟨.int ns.sum, H, I.kept (t' := tk) hk, ⟨_, rfl⟩, nf rfl _ _ (Same.refl H) (.int _)⟩
  case h_21 xs =>
    obtain ⟨v, rfl, k1⟩ := den1 h1
    obtain ⟨a, ws, rfl, e1, n1, l1⟩ := lst_of k1
    obtain ⟨c, e⟩ := grd_ok e
    obtain ⟨rfl, _⟩ := pure_ok e
    obtain rfl := Vals.ref1 rs
    exact sorted_list I (SqL.of e1) bk l1 c fun v H' sm n' ex => q v H' sm n' fun _ => ex
  case h_22 ks vs' =>
    obtain ⟨v, rfl, k1⟩ := den1 h1
    obtain ⟨c, e⟩ := grd_ok e
    obtain ⟨rfl, _⟩ := pure_ok e
    cases k1 with
    | dK k2 n1 e1 l1 =>
      obtain rfl := Vals.ref1 rs
      exact sorted_dk hc I k2 e1 bk c fun v H' sm n' ex => q v H' sm n' fun _ => ex
  case h_23 => exact (stk_ok e).elim
end
end TI
set_option Elab.async false
set_option linter.all false
set_option maxRecDepth 100000
set_option maxHeartbeats 4000000
/-! that a term is a piece of the text -/
namespace TI
open PySem PySem.Spec PyProof.Rows L2

def plainE : Expr → Bool
  | .Starred _ _ | .Slice _ _ _ _ | .Set _ _ _ | .NamedExpr _ _ _ | .Await _ _ | .Yield _ _ | .YieldFrom _ _ => false
  | .Call (.Name _ _) [] [] _ => false
  | _ => true
def isLocK : Option NameKind → Bool
  | some .local | some .cell | some .free => true
  | _ => false
def mName (N : List Str) (sc : Scope) (i : Nat) (x : Str) : Bool := decide (N[i]? = some x) && (isLocK (sc.names.lookup x) && (!(x == ("__debug__" : Str)) && !(x == ("__classdict__" : Str))))
def mGlo (sc : Scope) (x : Str) : Bool := decide (sc.names.lookup x = some .globalImplicit) && (!(x == ("__debug__" : Str)) && decide (x ≠ ("__name__" : Str)))
def Tgs.len : Tgs → Nat
  | .nil => 0
  | .cons _ ts => ts.len + 1
mutual
def mT (N : List Str) (sc : Scope) : Tg → Expr → Bool
  | .nm i, .Name x _ => decide (N[i]? = some x) && (decide (sc.names.lookup x = some .local) || decide (sc.names.lookup x = some .cell))
  | .tp ts, .Tuple es _ _ => mTs N sc ts es
  | _, _ => false
def mTs (N : List Str) (sc : Scope) : Tgs → List Expr → Bool
  | .nil, [] => true
  | .cons t ts, e :: es => mT N sc t e && mTs N sc ts es
  | _, _ => false
end
def mTys (sc : Scope) : List Ty → List Expr → Bool
  | [], [] => true
  | t :: ts, .Name x _ :: es => decide (x = t.name) && (mGlo sc x && mTys sc ts es)
  | _, _ => false
/-- a walk that gives new pairs wants a tuple as its target -/
def okTg : It → Tg → Bool
  | .enu _, .nm _ => false
  | .zip _ _, .nm _ => false
  | _, _ => true
mutual
def mE (N : List Str) (sc : Scope) : Ex → Expr → Bool
  | .var i, q => plainE q && (match q with
    | .Name x _ => mName N sc i x
    | _ => false)
  | .con c, q => plainE q && (match q with
    | .Constant c' _ _ => decide (c = c')
    | _ => false)
  | .glo x _, q => plainE q && (match q with
    | .Name y _ => decide (x = y) && mGlo sc y
    | _ => false)
  | .bin o a b, q => plainE q && (match q with
    | .BinOp l o' r _ => decide (o = o') && (mE N sc a l && mE N sc b r)
    | _ => false)
  | .neg a, q => plainE q && (match q with
    | .UnaryOp .USub x _ => mE N sc a x
    | _ => false)
  | .nt a, q => plainE q && (match q with
    | .UnaryOp .Not x _ => mE N sc a x
    | _ => false)
  | .cmp o a b, q => plainE q && (match q with
    | .Compare l [o'] [r] _ => decide (o = o') && (mE N sc a l && mE N sc b r)
    | _ => false)
  | .cmp2 o p a b c, q => plainE q && (match q with
    | .Compare l [o', p'] [m, r] _ => decide (o = o') && (decide (p = p') && (mE N sc a l && (mE N sc b m && mE N sc c r)))
    | _ => false)
  | .and es, q => plainE q && (match q with
    | .BoolOp .And vs _ => mEs N sc es vs
    | _ => false)
  | .or es, q => plainE q && (match q with
    | .BoolOp .Or vs _ => mEs N sc es vs
    | _ => false)
  | .ite c a b, q => plainE q && (match q with
    | .IfExp c' a' b' _ => mE N sc c c' && (mE N sc a a' && mE N sc b b')
    | _ => false)
  | .tup es, q => plainE q && (match q with
    | .Tuple vs _ _ => mEs N sc es vs
    | _ => false)
  | .lst es, q => plainE q && (match q with
    | .List vs _ => mEs N sc es vs
    | _ => false)
  | .sub a i, q => plainE q && (match q with
    | .Subscript v s _ => mE N sc a v && mE N sc i s
    | _ => false)
  | .slc a lo hi, q => plainE q && (match q with
    | .Subscript v (.Slice l u none _) _ => mE N sc a v && (mO N sc lo l && mO N sc hi u)
    | _ => false)
  | .call x _ es, q => plainE q && (match q with
    | .Call (.Name y _) (v :: vs) [] _ => decide (x = y) && (mGlo sc y && mEs N sc es (v :: vs))
    | _ => false)
  | .blt b es, q => plainE q && (match q with
    | .Call (.Name y _) (v :: vs) [] _ => decide (y = b.name) && (mGlo sc y && mEs N sc es (v :: vs))
    | _ => false)
  | .met m a es, q => plainE q && (match q with
    | .Call (.Attribute o nm ap) (v :: vs) [] cp => decide (nm = m.name) && (mE N sc a o && (mEs N sc es (v :: vs) && ((ap.endLine == cp.line) && decide (vs.length < 20))))
    | _ => false)
  | .isi a [t] true, q => plainE q && (match q with
    | .Call (.Name y _) [v, .Name z _] [] _ => decide (y = ("isinstance" : Str)) && (mGlo sc y && (mE N sc a v && mTys sc [t] [.Name z ⟨0, 0, 0, 0⟩]))
    | _ => false)
  | .isi a ts false, q => plainE q && (match q with
    | .Call (.Name y _) [v, .Tuple vs _ _] [] _ => decide (y = ("isinstance" : Str)) && (mGlo sc y && (mE N sc a v && mTys sc ts vs))
    | _ => false)
  | .comp tg it c e own, q => plainE q && (match q with
    | .ListComp elt [⟨t, i, ifs, z⟩] scope _ => decide (z = 0) && (okTg it tg && (mI N sc it i && (blkC N sc scope own && (mT N scope tg t && (tg.ws.all (own.map (·.2)).contains && (mC N (relS scope sc) c ifs && mE N (relS scope sc) e elt))))))
    | _ => false)
  | .dic _, q => plainE q && (match q with
    | .Dict [] [] _ => true
    | _ => false)
  | .ssc tg it c e own, q => plainE q && (match q with
    | .Call (.Name y _) [.SetComp elt [⟨t, i, ifs, z⟩] scope _] [] _ => decide (y = ("sorted" : Str)) && (mGlo sc y && (decide (z = 0) && (okTg it tg && (mI N sc it i && (blkC N sc scope own && (mT N scope tg t && (tg.ws.all (own.map (·.2)).contains && (mC N (relS scope sc) c ifs && mE N (relS scope sc) e elt))))))))
    | _ => false)
  | .keyl i x, q => plainE q && (match q with
    | .ListComp (.Name y _) [⟨.Name y2 p2, .Name n _, [], z⟩] scope _ => decide (z = 0) && (mName N sc i n && (blkC N sc scope [(y2, x)] && (mT N scope (.nm x) (.Name y2 p2) && mName N (relS scope sc) x y)))
    | _ => false)
  | .mxd a d, q => plainE q && (match q with
    | .Call (.Name y _) [v] [⟨some kw, .Constant (.int k) _ _, _⟩] _ => decide (y = ("max" : Str)) && (decide (kw = ("default" : Str)) && (decide (k = d) && (mGlo sc y && mE N sc a v)))
    | _ => false)
  | _, _ => false
def mEs (N : List Str) (sc : Scope) : Exs → List Expr → Bool
  | .nil, [] => true
  | .cons e es, a :: as => mE N sc e a && mEs N sc es as
  | _, _ => false
def mO (N : List Str) (sc : Scope) : Op → Option Expr → Bool
  | .no, none => true
  | .so e, some a => mE N sc e a
  | _, _ => false
def mC (N : List Str) (sc : Scope) : Op → List Expr → Bool
  | .no, [] => true
  | .so e, [a] => mE N sc e a
  | _, _ => false
def mI (N : List Str) (sc : Scope) : It → Expr → Bool
  | .of e, a => mE N sc e a
  | .rng es, .Call (.Name y _) (v :: vs) [] _ => decide (y = ("range" : Str)) && (mGlo sc y && (decide (vs.length < 3) && mEs N sc es (v :: vs)))
  | .enu e, .Call (.Name y _) [v] [] _ => decide (y = ("enumerate" : Str)) && (mGlo sc y && mE N sc e v)
  | .zip a b, .Call (.Name y _) [v, w] [] _ => decide (y = ("zip" : Str)) && (mGlo sc y && (mE N sc a v && mE N sc b w))
  | .rev e, .Call (.Name y _) [v] [] _ => decide (y = ("reversed" : Str)) && (mGlo sc y && mE N sc e v)
  | _, _ => false
end
/-! what is called, what constants are read -/
mutual
def Ex.calls : Ex → List (Str × Sem)
  | .var _ | .con _ | .glo _ _ | .dic _ | .keyl _ _ => []
  | .bin _ a b | .cmp _ a b | .sub a b => a.calls ++ b.calls
  | .neg a | .nt a | .rvs a | .isi a _ _ => a.calls
  | .cmp2 _ _ a b c | .ite a b c => a.calls ++ (b.calls ++ c.calls)
  | .and es | .or es | .tup es | .lst es | .blt _ es => es.calls
  | .call x f es => (x, f) :: es.calls
  | .slc a lo hi => a.calls ++ (lo.calls ++ hi.calls)
  | .met _ a es => a.calls ++ es.calls
  | .comp _ it c e _ | .ssc _ it c e _ => it.calls ++ (c.calls ++ e.calls)
  | .mxd a _ => a.calls
def Exs.calls : Exs → List (Str × Sem)
  | .nil => []
  | .cons e es => e.calls ++ es.calls
def Op.calls : Op → List (Str × Sem)
  | .no => []
  | .so e => e.calls
def It.calls : It → List (Str × Sem)
  | .of e | .enu e | .rev e => e.calls
  | .rng es => es.calls
  | .zip a b => a.calls ++ b.calls
end
mutual
def Ex.globs : Ex → List (Str × D)
  | .var _ | .con _ | .dic _ | .keyl _ _ => []
  | .glo x d => [(x, d)]
  | .bin _ a b | .cmp _ a b | .sub a b => a.globs ++ b.globs
  | .neg a | .nt a | .rvs a | .isi a _ _ => a.globs
  | .cmp2 _ _ a b c | .ite a b c => a.globs ++ (b.globs ++ c.globs)
  | .and es | .or es | .tup es | .lst es | .blt _ es => es.globs
  | .call x f es => es.globs
  | .slc a lo hi => a.globs ++ (lo.globs ++ hi.globs)
  | .met _ a es => a.globs ++ es.globs
  | .comp _ it c e _ | .ssc _ it c e _ => it.globs ++ (c.globs ++ e.globs)
  | .mxd a _ => a.globs
def Exs.globs : Exs → List (Str × D)
  | .nil => []
  | .cons e es => e.globs ++ es.globs
def Op.globs : Op → List (Str × D)
  | .no => []
  | .so e => e.globs
def It.globs : It → List (Str × D)
  | .of e | .enu e | .rev e => e.globs
  | .rng es => es.globs
  | .zip a b => a.globs ++ b.globs
end
theorem star_cons {a : Expr} {es : List Expr} {env : Env} (h : plainE a = true) : starEach (a :: es) env = (false, eval a env) :: starEach es env := by
  cases a <;> first | rfl | cases h
theorem mE_plain {N : List Str} {sc : Scope} {e : Ex} {a : Expr} (h : mE N sc e a = true) : plainE a = true := by
  unfold mE at h
  split at h <;> first | exact (Bool.and_eq_true_iff.mp h).1 | exact absurd h Bool.false_ne_true
theorem mEs_plain {N : List Str} {sc : Scope} : ∀ {es : Exs} {as : List Expr}, mEs N sc es as = true → ∀ a ∈ as, plainE a = true
  | .nil, [], _ => by simp
  | .nil, _ :: _, h => by simp [mEs] at h
  | .cons _ _, [], h => by simp [mEs] at h
  | .cons e es, a :: as, h => by
    unfold mEs at h
    rw [Bool.and_eq_true] at h
    intro x hx
    rcases List.mem_cons.mp hx with rfl | hx
    · exact mE_plain h.1
    · exact mEs_plain h.2 x hx
theorem star_any {env : Env} {pos : Pos} : ∀ {as : List Expr}, (∀ a ∈ as, plainE a = true) → (backTo pos (starEach as env)).any (·.1) = false
  | [], _ => rfl
  | a :: as, h => by
    rw [star_cons (h a List.mem_cons_self)]
    show (false || (backTo pos (starEach as env)).any (·.1)) = false
    rw [star_any fun x hx => h x (List.mem_cons_of_mem _ hx)]
    rfl
theorem star_all {env : Env} {pos : Pos} : ∀ {as : List Expr}, (∀ a ∈ as, plainE a = true) → (backTo pos (starEach as env)).all (fun x => !x.1) = true
  | [], _ => rfl
  | a :: as, h => by
    rw [star_cons (h a List.mem_cons_self)]
    show (true && (backTo pos (starEach as env)).all (fun x => !x.1)) = true
    rw [star_all fun x hx => h x (List.mem_cons_of_mem _ hx)]
    rfl
theorem attr_base {a : Expr} {env : Env} {n : Str} (h : plainE a = true) : attributeBase a n env (eval a env) = eval a env := by
  cases a with
  | Call f args kw pos =>
    cases f with
    | Name x p =>
      cases args with
      | nil =>
        cases kw with
        | nil => simp [plainE] at h
        | cons _ _ => rfl
      | cons _ _ => rfl
    | _ => rfl
  | _ => rfl
theorem plain_ix {a : Expr} (h : plainE a = true) : PlainIx a := by
  cases a <;> first | (intro _ _; rfl) | cases h
theorem no_behind {a : Expr} {o : CmpOp} (h : plainE a = true) : behindInMarks o a = false := by
  cases a <;> first | rfl | cases h
theorem no_fold {a : Expr} {env : Env} (h : plainE a = true) : ∀ x, foldedSetIterable a env x = pure x := by
  cases a <;> first | (intro _; rfl) | cases h
end TI
set_option Elab.async false
set_option linter.all false
set_option maxRecDepth 100000
set_option maxHeartbeats 4000000
/-! what terms are worth is what the model gives -/
namespace TI
open PySem PySem.Spec PyProof.Rows L2

/-- what a state's meaning hangs on -/
structure Cc where
  K : PySem.W.Frag
  n : Nat
  mg : Str → Option Value
abbrev cc (X : Cx) : Cc := ⟨X.K, X.N.length, X.mg⟩
/-- an exception: its class, its dict, its fields -/
def ErrAt (X : Cc) (Z : Spc) (B : Addr → Prop) (e : Er) (cls : Value) (dd : Option Addr) (H : Hp) : Prop :=
  ∃ (C dx : Addr) (fs : List (Str × V)), cls = .ref C ∧ X.mg (S e.cls) = some (.ref C) ∧ dd = some dx ∧ H dx = some (.xd fs) ∧ DenL X.K Z.r H B (fs.map (·.2)) e.args

/-- an end wished for behind m, from the heap H on -/
def Wr {α : Type} (Z : Spc) (H : Hp) (ok : α → G → Hp → Prop) (er : Er → G → Hp → Prop) : Res α → Prop
  | .ok a g => ∀ H', Fr Z.F H H' → Z.At g H' → ok a g H'
  | .err e g => ∀ H', Fr Z.F H H' → Z.At g H' → er e g H'
  | .stuck => False
section
variable {α β : Type} {Z : Spc} {H H1 : Hp} {ok ok' : α → G → Hp → Prop} {er : Er → G → Hp → Prop}
theorem Wr.from {r : Res α} (h : Wr Z H ok er r) (f : Fr Z.F H H1) : Wr Z H1 ok er r := by
  cases r with
  | ok a g => exact fun H' f' a' => h H' (f.trans f') a'
  | err e g => exact fun H' f' a' => h H' (f.trans f') a'
  | stuck => exact h
theorem Wr.mono {r : Res α} (h : Wr Z H ok er r) (k : ∀ a g H', Fr Z.F H H' → Z.At g H' → ok a g H' → ok' a g H') : Wr Z H ok' er r := by
  cases r with
  | ok a g => exact fun H' f' a' => k a g H' f' a' (h H' f' a')
  | err e g => exact h
  | stuck => exact h
theorem Wr.bind {m : M β} {f : β → M α} {g : G} (h : Wr Z H ok er ((m >>= f) g)) : Wr Z H (fun b g1 H1 => Wr Z H1 ok er (f b g1)) er (m g) := by
  have h : Wr Z H ok er (M.bnd m f g) := h
  unfold M.bnd at h
  cases e : m g with
  | ok b g1 => rw [e] at h; exact fun H1 f1 _ => h.from f1
  | err x g1 => rw [e] at h; exact h
  | stuck => rw [e] at h; exact h
theorem Wr.bindB {m : M β} {f : β → M α} {g : G} (h : Wr Z H ok er ((m >>= f) g)) : Wr Z H (fun b g1 _ => Wr Z H ok er (f b g1)) er (m g) := by
  have h : Wr Z H ok er (M.bnd m f g) := h
  unfold M.bnd at h
  cases e : m g with
  | ok b g1 => rw [e] at h; exact fun _ _ _ => h
  | err x g1 => rw [e] at h; exact h
  | stuck => rw [e] at h; exact h
theorem Wr.nox {m : M α} {g : G} (h : Wr Z H ok er (TI.nox m g)) : Wr Z H ok (fun _ _ _ => False) (m g) := by
  unfold TI.nox at h
  cases e : m g with
  | ok b g1 => rw [e] at h; exact h
  | err x g1 => rw [e] at h; exact h.elim
  | stuck => rw [e] at h; exact h
theorem Wr.monoE {er' : Er → G → Hp → Prop} {r : Res α} (h : Wr Z H ok er r) (k : ∀ e g H', er e g H' → er' e g H') : Wr Z H ok er' r := by
  cases r with
  | ok a g => exact h
  | err e g => exact fun H' f a' => k e g H' (h H' f a')
  | stuck => exact h
theorem Wr.pure {a : α} {g : G} (h : Wr Z H ok er ((Pure.pure a : M α) g)) (at' : Z.At g H) : ok a g H := h H .refl at'
theorem Wr.ofPr {m : M α} {g : G} (p : Pr m) (h : Wr Z H ok er (m g)) (at' : Z.At g H) : ∃ a, m g = .ok a g ∧ ∀ H', Fr Z.F H H' → Z.At g H' → ok a g H' := by
  rcases p g with ⟨a, e⟩ | e
  · rw [e] at h; exact ⟨a, e, h⟩
  · rw [e] at h; exact h.elim
theorem Wr.grd {c : Bool} {m : M α} {g : G} (h : Wr Z H ok er (grd c m g)) : c = true ∧ Wr Z H ok er (m g) := by
  unfold TI.grd at h
  split at h
  · exact ⟨by assumption, h⟩
  · exact h.elim
theorem Wr.stk {g : G} (h : Wr Z H ok er ((M.stk : M α) g)) : False := h
theorem Wr.opt {o : Option α} {g : G} (h : Wr Z H ok er (opt o g)) (at' : Z.At g H) : ∃ a, o = some a ∧ ok a g H := by
  cases o with
  | none => exact h.elim
  | some a => exact ⟨a, rfl, Wr.pure h at'⟩
end

/-- what is known at a state -/
structure Pre (X : Cc) (Z : Spc) (B : Addr → Prop) (ρ : List Sl) (g : G) (σ : L2.St) (H : Hp) (vs : List Nat) : Prop where
  sub : ∀ a, Z.F a → B a
  bok : BOk B H
  at' : Z.At g H
  len : σ.length = X.n
  sl : ∀ i ∈ vs, ∀ d, vget ρ i = some d → ∃ v, σ[i]? = some (some v) ∧ Den X.K Z.r H B v d
section
variable {X : Cc} {Z : Spc} {B : Addr → Prop} {ρ : List Sl} {g g1 : G} {σ : L2.St} {H H1 : Hp} {vs ws : List Nat}
theorem bok_step (sub : ∀ a, Z.F a → B a) (b : BOk B H) (f : Fr Z.F H H1) (a : Z.At g1 H1) : BOk B H1 := fun x hx => by
  by_cases h : Z.F x
  · exact Z.mu a x h
  · obtain ⟨o, e, m⟩ := b x hx
    exact ⟨o, f x o e h, m⟩
theorem Pre.step (p : Pre X Z B ρ g σ H vs) (f : Fr Z.F H H1) (a : Z.At g1 H1) : Pre X Z B ρ g1 σ H1 vs :=
  ⟨p.sub, bok_step p.sub p.bok f a, a, p.len, fun i hi d e => by
    obtain ⟨v, h1, h2⟩ := p.sl i hi d e
    exact ⟨v, h1, Den.fr (f.mono p.sub) p.bok d v h2⟩⟩
theorem Pre.less (p : Pre X Z B ρ g σ H vs) (h : ∀ i ∈ ws, i ∈ vs) : Pre X Z B ρ g σ H ws := ⟨p.sub, p.bok, p.at', p.len, fun i hi => p.sl i (h i hi)⟩
theorem Pre.l (p : Pre X Z B ρ g σ H (vs ++ ws)) : Pre X Z B ρ g σ H vs := p.less fun _ h => List.mem_append_left _ h
theorem Pre.r (p : Pre X Z B ρ g σ H (vs ++ ws)) : Pre X Z B ρ g σ H ws := p.less fun _ h => List.mem_append_right _ h
theorem Pre.den (p : Pre X Z B ρ g σ H vs) (f : Fr Z.F H H1) {d : D} {v : V} (h : Den X.K Z.r H B v d) : Den X.K Z.r H1 B v d := Den.fr (f.mono p.sub) p.bok d v h
theorem Pre.denL (p : Pre X Z B ρ g σ H vs) (f : Fr Z.F H H1) {d : List D} {v : List V} (h : DenL X.K Z.r H B v d) : DenL X.K Z.r H1 B v d := DenL.fr (f.mono p.sub) p.bok d v h
theorem new_back {p : Addr} (f : Fr Z.F H H1) (a : Z.At g1 H1) (n : H1 p = none) : H p = none := by
  cases e : H p with
  | none => rfl
  | some o =>
    by_cases h : Z.F p
    · obtain ⟨o', e', _⟩ := Z.mu a p h
      rw [n] at e'; cases e'
    · have := f p o e h
      rw [n] at this; cases this
theorem at_same (Z : Spc) {g : G} {H H' : Hp} (a : Z.At g H) (s : Same H H') : Z.At g H' := Z.loc a fun x o _ e => s x o e
end

/-- what of a value is new since H -/
structure Fsh (n : Nat) (H H' : Hp) (v : V) (d : D) : Prop where
  a : 1 ≤ n → isCont d = true → ∃ p, v = .ref p ∧ H p = none
  b : 2 ≤ n → d.kids.all isCont = true → ∀ p, v = .ref p → ∃ qs : List Addr, H' p = some (.lst (qs.map .ref)) ∧ qs.Nodup ∧ ∀ q ∈ qs, H q = none ∧ q ≠ p
theorem fsh0 {H H' : Hp} {v : V} {d : D} : Fsh 0 H H' v d := ⟨fun z => absurd z (by decide), fun z => absurd z (by decide)⟩
theorem fshN {n : Nat} {H H' : Hp} {v : V} {d : D} (n1 : n ≤ 1) (h : isCont d = false) : Fsh n H H' v d := ⟨fun _ z => (by rw [h] at z; cases z), fun z => (by omega)⟩
theorem fsh1 {H H' : Hp} {p : Addr} {d : D} (h : H p = none) : Fsh 1 H H' (.ref p) d := ⟨fun _ _ => ⟨p, rfl, h⟩, fun z => absurd z (by decide)⟩
def okD (X : Cc) (Z : Spc) (B : Addr → Prop) (H : Hp) (fr : Nat) (Q : VK) : D → G → Hp → Prop := fun d _ H' => ∀ v, Den X.K Z.r H' B v d → Fsh fr H H' v d → Q v H'
def okB (Q : Bool → Hp → Prop) : Bool → G → Hp → Prop := fun b _ H' => Q b H'
def okL (X : Cc) (Z : Spc) (B : Addr → Prop) (Q : List V → Hp → Prop) : List D → G → Hp → Prop := fun ds _ H' => ∀ vs, DenL X.K Z.r H' B vs ds → Q vs H'
def okO (Q : Option Int → Hp → Prop) : Option Int → G → Hp → Prop := fun o _ H' => Q o H'
def erW (X : Cc) (Z : Spc) (B : Addr → Prop) (W : WX) (σ : L2.St) : Er → G → Hp → Prop := fun e _ H' => ∀ cls dd, ErrAt X Z B e cls dd H' → W cls dd σ H'
def tM (X : Cc) (Z : Spc) (W : WX) (vs : List Nat) (fr : Nat) (m : List Sl → M D) : TE := fun σ H Q => ∃ B ρ g, Pre X Z B ρ g σ H vs ∧ Wr Z H (okD X Z B H fr Q) (erW X Z B W σ) (m ρ g)
def tMB (X : Cc) (Z : Spc) (W : WX) (vs : List Nat) (m : List Sl → M Bool) : TT := fun σ H Q => ∃ B ρ g, Pre X Z B ρ g σ H vs ∧ Wr Z H (okB Q) (erW X Z B W σ) (m ρ g)
def tML (X : Cc) (Z : Spc) (W : WX) (vs : List Nat) (m : List Sl → M (List D)) : TA := fun σ H Q => ∃ B ρ g, Pre X Z B ρ g σ H vs ∧ Wr Z H (okL X Z B Q) (erW X Z B W σ) (m ρ g)
def tMO (X : Cc) (Z : Spc) (W : WX) (vs : List Nat) (m : List Sl → M (Option Int)) : TO := fun σ H Q => ∃ B ρ g, Pre X Z B ρ g σ H vs ∧ Wr Z H (okO Q) (erW X Z B W σ) (m ρ g)

/-! ### the context -/
def bnames : List Str := ["len", "sum", "max", "min", "abs", "int", "tuple", "list", "any", "all", "ord", "sorted", "bool", "str", "isinstance", "range", "enumerate", "zip", "reversed"]
structure XOk (X : Cx) (Z : Spc) (W : WX) (k : Nat) (sc : Scope) : Prop where
  sc : X.env.scope = sc
  nd : X.N.Nodup
  calm : X.calm = true
  room : Room k X.A
  tk : Takes X W
  bn : ∀ x ∈ bnames, X.mg x = none
theorem XOk.u {X : Cx} {Z : Spc} {W : WX} {k : Nat} {sc : Scope} (O : XOk X Z W k sc) : X.A.units + 200 < cLine := by
  have := O.room.un
  omega
/-- a def's promise by its tree function -/
def spD (K : PySem.W.Frag) (mg : Str → Option Value) (Z : Spc) (n : Nat) (f : Sem) : Sp := fun vs H Q E => vs.length = n ∧ ∃ B ds g, (∀ a, Z.F a → B a) ∧ BOk B H ∧ Z.At g H ∧ DenL K Z.r H B vs ds ∧
  Wr Z H (fun d _ H' => ∀ v, Den K Z.r H' B v d → Q v H')
    (fun e _ H' => ∀ cls dd, (∃ (C dx : Addr) (fs : List (Str × V)), cls = .ref C ∧ mg (S e.cls) = some (.ref C) ∧ dd = some dx ∧ H' dx = some (.xd fs) ∧ DenL K Z.r H' B (fs.map (·.2)) e.args) → E cls dd H') (f ds g)
structure GFn (P : Program) (w : World) (K : PySem.W.Frag) (mg : Str → Option Value) (base : Heap) (Z : Spc) (k : Nat) (x : Str) (f : Sem) : Prop where
  ex : ∃ (a : Addr) (fd : FuncData) (ps : List Str), mg x = some (.ref a) ∧ PySem.W.keepIn K (.ref a) = true ∧ Binds K fd ps [] ∧ FnOk P w K mg base (CX P w) k a fd ps (spD K mg Z ps.length f) ∧ ∀ ds g, ds.length ≠ ps.length → f ds g = .stuck
abbrev GFX (X : Cx) (Z : Spc) (k : Nat) (p : Str × Sem) : Prop := GFn X.prog X.w X.K X.mg X.base Z k p.1 p.2
def GGX (X : Cx) (Z : Spc) (p : Str × D) : Prop := ∃ u v, X.mg p.1 = some u ∧ RelV v u ∧ ∀ H B, Den X.K Z.r H B v p.2

section
variable {X : Cx} {Z : Spc} {W : WX} {k : Nat} {sc : Scope}
theorem name_vis {N : List Str} {i : Nat} {x : Str} (h : mName N sc i x = true) : N[i]? = some x ∧ Vis sc x ∧ (x == ("__debug__" : Str)) = false ∧ (x == ("__classdict__" : Str)) = false := by
  unfold mName at h
  simp only [Bool.and_eq_true, decide_eq_true_eq, Bool.not_eq_true'] at h
  refine ⟨h.1, ?_, h.2.2.1, h.2.2.2⟩
  have q := h.2.1
  unfold isLocK at q
  unfold Vis
  split at q
  · rename_i e; exact .inl e
  · rename_i e; exact .inr (.inl e)
  · rename_i e; exact .inr (.inr e)
  · cases q
theorem glo_gl (O : XOk X Z W k sc) {x : Str} (h : mGlo sc x = true) : Gl X x ∧ (x == ("__debug__" : Str)) = false ∧ x ≠ ("__name__" : Str) := by
  unfold mGlo at h
  simp only [Bool.and_eq_true, decide_eq_true_eq, Bool.not_eq_true'] at h
  refine ⟨?_, h.2.1, h.2.2⟩
  show X.env.scope.names.lookup x = _
  rw [O.sc]; exact h.1
theorem pe_mono {e : Expr} {t u : TE} (h : PE X e t) (k : ∀ σ H Q, u σ H Q → t σ H Q) : PE X e u := ⟨fun pins s σ H Q I q => h.run pins s σ H Q I (k σ H Q q)⟩
theorem pt_mono {e : Expr} {t u : TT} (h : PT X e t) (k : ∀ σ H Q, u σ H Q → t σ H Q) : PT X e u := ⟨fun pins s σ H Q I q => h.run pins s σ H Q I (k σ H Q q)⟩
theorem pa_mono {e : List Expr} {t u : TA} (h : PA X e t) (k : ∀ σ H Q, u σ H Q → t σ H Q) : PA X e u := ⟨fun pos pins s σ H Q I q => h.run pos pins s σ H Q I (k σ H Q q)⟩
theorem po_mono {e : Option Expr} {t u : TO} (h : PO X e t) (k : ∀ σ H Q, u σ H Q → t σ H Q) : PO X e u := ⟨fun pins s σ H Q I q => h.run pins s σ H Q I (k σ H Q q)⟩
end
end TI
set_option Elab.async false
set_option linter.all false
set_option maxRecDepth 100000
set_option maxHeartbeats 4000000
/-! enumerate of a tuple, of a text -/
namespace PySem
open Sem (wp)
open AutoSeq1 (wpAny_loadPart')
theorem ti_meets_enum {v : Value} {o : Obj} {H : Heap → Prop} (B : Begins v o H) :
    Meets (Builtin.«enumerate.__new__» ⟨[.type "enumerate", v], []⟩) (fun _ R s => H s.heap ∧
      R (.ok (.ret (.ref (s.heap.push o).objs.size)))
        { s with heap := (s.heap.push o).push { cls := .type "enumerate", data := .fields #[.none, .bool false, .ref s.heap.objs.size, rawInt 0, .none, .none] } }) :=
  .of_wp fun prog w A R s h => by
    obtain ⟨hp, g, d, tk, os⟩ := s; obtain ⟨h1, h⟩ := h
    have hsub := sub_enumerate
    have q1 : ∀ {A' : Around} {E : Value → Shared → Prop} {Q : Value → Shared → Prop}, Q (.ref hp.objs.size) ⟨(hp.push o), g, d, tk, os⟩ → wpAny (model prog w) A' (pyIter v) Q E ⟨hp, g, d, tk, os⟩ :=
      fun q => B.iter prog w _ _ ⟨hp, g, d, tk, os⟩ _ h1 q
    wp_walk
    refine wpAny_stack_any fun st => wpAny_pure ?_
    split
    · rename_i c _ _ _ _ _
      cases (c == Value.type "enumerate")
      · wp_walk using q1
        exact ⟨_, rfl, h⟩
      · wp_walk using q1
        exact ⟨_, rfl, h⟩
    · wp_walk using q1
      exact ⟨_, rfl, h⟩
theorem ti_enum_begins {prog : Program} {w : World} {A : Around} {E : Value → Shared → Prop} {s : Shared} {v : Value} {o : Obj} {H : Heap → Prop} {Q : Value → Shared → Prop} (B : Begins v o H) (h1 : H s.heap)
    (h : ∀ h', IsEnum h' (s.heap.objs.size + 1) s.heap.objs.size 0 .none → h'.get? s.heap.objs.size = some o → h'.objs.size = s.heap.objs.size + 2 →
      (∀ b o, s.heap.get? b = some o → h'.get? b = some o) → Q (.ref (s.heap.objs.size + 1)) { s with heap := h' }) :
    wpAny (model prog w) A (call (.type "enumerate") [v]) Q E s := by
  refine callType_new F.called_enumerate (by decide) (F.typeCall_enumerate_1 _) (F.newCall_enumerate_1 _) (fun obj => F.args_object_init_2 obj _) F.entry_enumerate_new
    (ti_meets_enum B) ⟨h1, ?_⟩
  have hz : (s.heap.push o).objs.size = s.heap.objs.size + 1 := Heap.size_push ..
  show _ ∧ _
  rw [hz]
  have he : IsEnum ((s.heap.push o).push { cls := .type "enumerate", data := .fields #[.none, .bool false, .ref s.heap.objs.size, rawInt 0, .none, .none] }) (s.heap.objs.size + 1) s.heap.objs.size 0 .none := by
    have := Heap.get?_push_size (s.heap.push o) (o := { cls := .type "enumerate", data := .fields #[.none, .bool false, .ref s.heap.objs.size, rawInt 0, .none, .none] }) rfl
    rw [hz] at this; exact this
  refine ⟨⟨_, he, rfl⟩, h _ he (Heap.get?_push_of_some _ (Heap.get?_push_size _ B.free)) (by rw [Heap.size_push, hz]) fun b o x => Heap.get?_push_of_some _ (Heap.get?_push_of_some _ x)⟩
end PySem
namespace TI
open PySem PySem.Spec PyProof.Rows L2

def IteT (K : PySem.W.Frag) (a : Addr) : L2.It :=
  ⟨fun i H => ∃ (xs : List V) (x : V), SqT K H a xs ∧ xs[i]? = some x, fun i H v H' => ∃ T x, v = .ref T ∧ H T = none ∧ H' = upd H T (.tup [.int (i : Nat), x]) ∧ ∀ xs, SqT K H a xs → xs[i]? = some x, fun i H => ∃ xs : List V, SqT K H a xs ∧ xs.length ≤ i⟩
theorem turn_enumT {P : Program} {w : World} {K : PySem.W.Frag} {elts : List Expr} {kk : Nat} {tpos : Pos} (a e it : Addr) :
    Turn P w K (.Tuple elts kk tpos) (IteT K a) [e, it] e (fun i h => (∃ old, IsEnum h e it ((i : Nat) : Int) old) ∧ h.IsTupleIter it a i ∧ e ≠ it) where
  mem := by simp
  obj := fun i h st b hb => by
    obtain ⟨⟨old, he⟩, ⟨o, ho, hc, hd⟩, _⟩ := st
    have e' : b = e ∨ b = it := by simpa using hb
    rcases e' with z | z
    · rw [z]; exact ⟨_, he, fun v q => nomatch q⟩
    · rw [z]; exact ⟨o, ho, fun v q => by rw [hd] at q; cases q⟩
  keep := fun i h h' st k => let ⟨⟨old, he⟩, hi, hne⟩ := st; ⟨⟨old, k e (by simp) _ he⟩, hi.at fun o q => k it (by simp) o q, hne⟩
  item := by
    intro X hP hw hK hc i pins s σ H E I hf st hg
    subst hP hw hK
    obtain ⟨⟨old, he⟩, hit, hne⟩ := st
    obtain ⟨xs, x, hq, hx⟩ := hg
    obtain ⟨its, rv, p, hz⟩ := I.tuple hq
    obtain ⟨u, hu, ru⟩ := rv.get hx
    have hel : e < s.heap.objs.size := Heap.lt_size he
    have hil : it < s.heap.objs.size := by obtain ⟨_, q, _⟩ := hit; exact Heap.lt_size q
    have hlen : i < its.toArray.size := by
      have := (List.getElem?_eq_some_iff.mp hu).1
      simpa using this
    have nae : a ≠ e := fun z => by
      obtain ⟨o, ho, hc', _⟩ := p
      rw [z, he] at ho; cases ho
      have q : (Value.type "enumerate") = Value.type "tuple" := hc'
      exact absurd q (by decide)
    have nai : a ≠ it := fun z => by
      obtain ⟨o, ho, hc', _⟩ := p
      obtain ⟨o2, ho2, hc2, _⟩ := hit
      rw [z, ho2] at ho; cases ho; rw [hc2] at hc'; exact absurd hc' (by decide)
    refine wpAny_pyNext_enum_itemD (Draws.tuple (A := X.A.in1) (I.ok.hd hc) it a nai its.toArray) he ⟨hit, p⟩ hlen hne (by simp [hne, Ne.symm nae]) fun y h' tk hPy ho hst hT hsz hk => ?_
    obtain ⟨hit', hp'⟩ := hst
    have hyu : y = u := by
      have h1 : its.toArray[i]? = some y := hPy
      rw [show its.toArray[i]? = its[i]? by simp, hu] at h1
      exact (Option.some.inj h1).symm
    subst hyu
    refine ⟨_, rfl, wpAny_letOwnedTupleGo_enum (s := { s with heap := h', toks := tk + 1 }) ho fun h'' he' sb => ?_⟩
    have hT2 : h''.get? s.heap.objs.size = some { cls := .type "tuple", data := .seq #[.int i tk, y] } := (sb.2 _ (Nat.ne_of_gt hel)).trans hT
    have new : ObjOk X.prog X.w (upd H s.heap.objs.size (.tup [.int (i : Nat), x])) h'' s.heap.objs.size (.tup [.int (i : Nat), x]) :=
      ⟨by show 2 ≤ sizeLine; decide, [.int i tk, y], .cons ⟨_, rfl⟩ (.cons ru .nil), ⟨_, hT2, rfl, _, rfl⟩⟩
    have I1 : Inv X pins σ (upd H s.heap.objs.size (.tup [.int (i : Nat), x])) { s with heap := h'', toks := tk + 1 } :=
      I.turnedNew (ch := [e, it]) (fun b ob hb q => (sb.2 b (fun z => hb (by simp [z]))).trans (hk b ob (fun z => hb (by simp [z])) (fun z => hb (by simp [z])) q)) hf (Nat.le_refl _) new
    refine ⟨.ref s.heap.objs.size, _, I1, rfl, ⟨_, x, rfl, I.hok.fresh (Nat.le_refl _), rfl, fun ys hy => by rw [I.tuple_inj hy hq]; exact hx⟩, ⟨⟨y, ?_⟩, hit'.at fun o q => (sb.2 it (Ne.symm hne)).trans q, hne⟩, fun b hb => ?_⟩
    · have e1 : ((i + 1 : Nat) : Int) = (i : Int) + 1 := by omega
      rw [e1]; exact he'
    · have hb' : b < s.heap.objs.size := by
        have e' : b = e ∨ b = it := by simpa using hb
        rcases e' with z | z
        · rw [z]; exact hel
        · rw [z]; exact hil
      rw [upd_ne (Nat.ne_of_lt hb')]
      exact (hf b hb).1
  done := by
    intro X hP hw hK hc i pins s σ H E I hf st hg
    subst hP hw hK
    obtain ⟨⟨old, he⟩, hit, hne⟩ := st
    obtain ⟨xs, hq, hx⟩ := hg
    obtain ⟨its, rv, p, hz⟩ := I.tuple hq
    obtain ⟨f0, f1, f2, f3, f4, f5⟩ := hf it (by simp)
    have hl := rv.length
    have hT : s.TypeIs (.ref e) "enumerate" := ⟨_, he, rfl⟩
    have hend : wpAny (model X.prog X.w) X.A (pyNext (.ref e)) (fun r s1 => r = none ∧ Inv X pins σ H s1) E s := by
      unfold pyNext
      refine wpAny_bind (wpAny_attempt (wpAny_callSpecial?_slot (name := Str.ofString "__next__") hT F.slot_enumerate_next
        (wpAny_call_entry F.slot_enumerate_next hT F.entry_enumerate_next ?_ (F.args_enumerate_next_1 _))))
      show wpAny _ _ (field (.ref e) 2 >>= _) _ _ _
      refine wpAny_bind (wpAny_field he rfl (x := .ref it) rfl ?_)
      refine wpAny_bind (wpAny_nextOf_tuple_end (A := X.A.in1) (I.ok.hd hc) hit p (by simp; omega) fun h' x he' hx' => ?_)
      obtain ⟨o, ho, hc⟩ := hx'
      refine wpAny_bind (wpAny_isInstance (T := "StopIteration") (b := true) ⟨o, ho, hc⟩ isSubtype_stop ?_)
      exact wpAny_pure ⟨rfl, I.turned (t' := s.toks) (fun b o hb q => he' b o hb q) f0 f1 f3 f4 f5⟩
    exact hend
  self := fun A i s Q E st h => let ⟨⟨_, he⟩, _⟩ := st; wpAny_pyIter_enum he h
def IteS (z : Str) : L2.It :=
  ⟨fun i _ => i < z.cps.size, fun i H v H' => ∃ T c, v = .ref T ∧ H T = none ∧ H' = upd H T (.tup [.int (i : Nat), .str ⟨#[c]⟩]) ∧ z.cps[i]? = some c, fun i _ => z.cps.size ≤ i⟩
theorem turn_enumS {P : Program} {w : World} {K : PySem.W.Frag} {elts : List Expr} {kk : Nat} {tpos : Pos} (z : Str) (t : Tok) (e it : Addr) :
    Turn P w K (.Tuple elts kk tpos) (IteS z) [e, it] e (fun i h => (∃ old, IsEnum h e it ((i : Nat) : Int) old) ∧ h.IsStrIter it (strIterType z) z t i ∧ e ≠ it) where
  mem := by simp
  obj := fun i h st b hb => by
    obtain ⟨⟨old, he⟩, ⟨o, ho, hc, hd⟩, _⟩ := st
    have e' : b = e ∨ b = it := by simpa using hb
    rcases e' with z | z
    · rw [z]; exact ⟨_, he, fun v q => nomatch q⟩
    · rw [z]; exact ⟨o, ho, fun v q => by rw [hd] at q; cases q⟩
  keep := fun i h h' st k => let ⟨⟨old, he⟩, hi, hne⟩ := st; ⟨⟨old, k e (by simp) _ he⟩, (let ⟨o, ho, r⟩ := hi; ⟨o, k it (by simp) o ho, r⟩), hne⟩
  item := by
    intro X hP hw hK hc i pins s σ H E I hf st hg
    subst hP hw hK
    obtain ⟨⟨old, he⟩, hit, hne⟩ := st
    have hel : e < s.heap.objs.size := Heap.lt_size he
    have hil : it < s.heap.objs.size := by obtain ⟨_, q, _⟩ := hit; exact Heap.lt_size q
    have hlen : i < z.cps.size := hg
    refine wpAny_pyNext_enum_itemD (Draws.text (A := X.A.in1) (I.ok.hd hc) it z t) he hit hlen hne (by simp [hne]) fun y h' tk hPy ho hit' hT hsz hk => ?_
    obtain ⟨c, u, hcu, rfl⟩ := hPy
    refine ⟨_, rfl, wpAny_letOwnedTupleGo_enum (s := { s with heap := h', toks := tk + 1 }) ho fun h'' he' sb => ?_⟩
    have hT2 : h''.get? s.heap.objs.size = some { cls := .type "tuple", data := .seq #[.int i tk, .str ⟨#[c]⟩ u] } := (sb.2 _ (Nat.ne_of_gt hel)).trans hT
    have new : ObjOk X.prog X.w (upd H s.heap.objs.size (.tup [.int (i : Nat), .str ⟨#[c]⟩])) h'' s.heap.objs.size (.tup [.int (i : Nat), .str ⟨#[c]⟩]) :=
      ⟨by show 2 ≤ sizeLine; decide, [.int i tk, .str ⟨#[c]⟩ u], .cons ⟨_, rfl⟩ (.cons ⟨_, rfl⟩ .nil), ⟨_, hT2, rfl, _, rfl⟩⟩
    have I1 : Inv X pins σ (upd H s.heap.objs.size (.tup [.int (i : Nat), .str ⟨#[c]⟩])) { s with heap := h'', toks := tk + 1 } :=
      I.turnedNew (ch := [e, it]) (fun b ob hb q => (sb.2 b (fun z => hb (by simp [z]))).trans (hk b ob (fun z => hb (by simp [z])) (fun z => hb (by simp [z])) q)) hf (Nat.le_refl _) new
    refine ⟨.ref s.heap.objs.size, _, I1, rfl, ⟨_, c, rfl, I.hok.fresh (Nat.le_refl _), rfl, hcu⟩, ⟨⟨.str ⟨#[c]⟩ u, ?_⟩, (let ⟨o, ho, r⟩ := hit'; ⟨o, (sb.2 it (Ne.symm hne)).trans ho, r⟩), hne⟩, fun b hb => ?_⟩
    · have e1 : ((i + 1 : Nat) : Int) = (i : Int) + 1 := by omega
      rw [e1]; exact he'
    · have hb' : b < s.heap.objs.size := by
        have e' : b = e ∨ b = it := by simpa using hb
        rcases e' with z | z
        · rw [z]; exact hel
        · rw [z]; exact hil
      rw [upd_ne (Nat.ne_of_lt hb')]
      exact (hf b hb).1
  done := by
    intro X hP hw hK hc i pins s σ H E I hf st hg
    subst hP hw hK
    obtain ⟨⟨old, he⟩, hit, hne⟩ := st
    obtain ⟨f0, f1, f2, f3, f4, f5⟩ := hf it (by simp)
    have hT : s.TypeIs (.ref e) "enumerate" := ⟨_, he, rfl⟩
    have hend : wpAny (model X.prog X.w) X.A (pyNext (.ref e)) (fun r s1 => r = none ∧ Inv X pins σ H s1) E s := by
      unfold pyNext
      refine wpAny_bind (wpAny_attempt (wpAny_callSpecial?_slot (name := Str.ofString "__next__") hT F.slot_enumerate_next
        (wpAny_call_entry F.slot_enumerate_next hT F.entry_enumerate_next ?_ (F.args_enumerate_next_1 _))))
      show wpAny _ _ (field (.ref e) 2 >>= _) _ _ _
      refine wpAny_bind (wpAny_field he rfl (x := .ref it) rfl ?_)
      have hst : s.heap.IsStrIter it (strIterType z) z t i := hit
      have hend2 : ∀ {Q : Value → Shared → Prop} {E' : Value → Shared → Prop}, (∀ h' e, Heap.ExtBut it s.heap h' → (∃ o, h'.get? e = some o ∧ o.cls = .type "StopIteration") → E' (.ref e) { s with heap := h' }) → wpAny (model X.prog X.w) X.A.in1 (Builtin.SmallTypes.nextOf (.ref it)) Q E' s := by
        intro Q E' hE
        cases ha : z.cps.all (· < 128)
        · have h2 : strIterType z = "str_iterator" := by simp [strIterType, ha]
          rw [h2] at hst
          exact wpAny_nextOf_wide_end (A := X.A.in1) (I.ok.hd hc) hst (by simp; exact hg) hE
        · have h2 : strIterType z = "str_ascii_iterator" := by simp [strIterType, ha]
          rw [h2] at hst
          exact wpAny_nextOf_ascii_end (A := X.A.in1) (I.ok.hd hc) hst (by simp; exact hg) hE
      refine wpAny_bind (hend2 fun h' x he' hx' => ?_)
      obtain ⟨o, ho, hc⟩ := hx'
      refine wpAny_bind (wpAny_isInstance (T := "StopIteration") (b := true) ⟨o, ho, hc⟩ isSubtype_stop ?_)
      exact wpAny_pure ⟨rfl, I.turned (t' := s.toks) (fun b o hb q => he' b o hb q) f0 f1 f3 f4 f5⟩
    exact hend
  self := fun A i s Q E st h => let ⟨⟨_, he⟩, _⟩ := st; wpAny_pyIter_enum he h

/-! ### the walks over trees -/
/-- from H0 on the walk J gives the trees ds -/
structure WalkC (X : Cc) (Z : Spc) (B : Addr → Prop) (H0 : Hp) (J : L2.It) (ds : List D) : Prop where
  goes : ∀ i H, i < ds.length → Fr B H0 H → J.go i H
  stops : ∀ H, Fr B H0 H → J.stop ds.length H
  yields : ∀ i H x H', i < ds.length → Fr B H0 H → BOk B H → J.yld i H x H' → Same H H' ∧ ∃ d, ds[i]? = some d ∧ Den X.K Z.r H' B x d
section
variable {X : Cc} {Z : Spc} {B : Addr → Prop} {H0 : Hp} {a : Addr} {vs : List V} {ds : List D}
theorem wd_list (bk : BM B H0) (e : H0 a = some (.lst vs)) (n : ¬ B a) (l : DenL X.K Z.r H0 B vs ds) : WalkC X Z B H0 (Itl X.K a) ds where
  goes := fun i H hi f => ⟨vs, vs[i]'(by rw [l.length]; exact hi), SqL.of (f _ _ e n), by simp [l.length, hi]⟩
  stops := fun H f => ⟨vs, SqL.of (f _ _ e n), by rw [l.length]; exact Nat.le_refl _⟩
  yields := fun i H x H' hi f b y => by
    obtain ⟨rfl, y⟩ := y
    refine ⟨Same.refl _, ?_⟩
    obtain ⟨d, h1, h2⟩ := l.getV (y _ (SqL.of (f _ _ e n)))
    exact ⟨d, h1, Den.frM f bk d x h2⟩
theorem wd_tup (bk : BM B H0) (e : H0 a = some (.tup vs)) (l : DenL X.K Z.r H0 B vs ds) : WalkC X Z B H0 (Itt X.K a) ds where
  goes := fun i H hi f => ⟨vs, vs[i]'(by rw [l.length]; exact hi), SqT.of (tup_frM f bk e), by simp [l.length, hi]⟩
  stops := fun H f => ⟨vs, SqT.of (tup_frM f bk e), by rw [l.length]; exact Nat.le_refl _⟩
  yields := fun i H x H' hi f b y => by
    obtain ⟨rfl, y⟩ := y
    refine ⟨Same.refl _, ?_⟩
    obtain ⟨d, h1, h2⟩ := l.getV (y _ (SqT.of (tup_frM f bk e)))
    exact ⟨d, h1, Den.frM f bk d x h2⟩
theorem wd_str (s : List Nat) : WalkC X Z B H0 (Its (S s)) (s.map fun c => .str [c]) where
  goes := fun i H hi f => by
    show i < (S s).cps.size
    simpa [S] using hi
  stops := fun H f => by
    show (S s).cps.size ≤ _
    simp [S]
  yields := fun i H x H' hi f b y => by
    obtain ⟨rfl, c, hc, rfl⟩ := y
    have hc : s[i]? = some c := by simpa [S] using hc
    exact ⟨Same.refl _, .str [c], by simp [hc], .str [c]⟩
theorem rngD_get : ∀ (n : Nat) (lo c : Int) (i : Nat), i < n → (rngD lo c n)[i]? = some (.int (lo + (i : Nat) * c))
  | 0, _, _, _, h => absurd h (Nat.not_lt_zero _)
  | n + 1, lo, c, 0, _ => by simp [rngD]
  | n + 1, lo, c, i + 1, h => by
    simp only [rngD, List.getElem?_cons_succ]
    rw [rngD_get n (lo + c) c i (by omega)]
    congr 2
    rw [Int.natCast_add, Int.add_mul]
    omega
theorem rngD_len : ∀ (n : Nat) (lo c : Int), (rngD lo c n).length = n
  | 0, _, _ => rfl
  | n + 1, lo, c => by simp [rngD, rngD_len n]
theorem wd_rng (lo : Int) (n : Nat) : WalkC X Z B H0 (Itr lo n) (rngD lo 1 n) where
  goes := fun i H hi f => by rw [rngD_len] at hi; exact hi
  stops := fun H f => by rw [rngD_len]; exact Nat.le_refl _
  yields := fun i H x H' hi f b y => by
    obtain ⟨rfl, rfl⟩ := y
    rw [rngD_len] at hi
    exact ⟨Same.refl _, _, rngD_get n lo 1 i hi, by rw [Int.mul_one]; exact .int _⟩
theorem wd_rngC (lo c : Int) (n : Nat) : WalkC X Z B H0 (Itc lo c n) (rngD lo c n) where
  goes := fun i H hi f => by rw [rngD_len] at hi; exact hi
  stops := fun H f => by rw [rngD_len]; exact Nat.le_refl _
  yields := fun i H x H' hi f b y => by
    obtain ⟨rfl, rfl⟩ := y
    rw [rngD_len] at hi
    exact ⟨Same.refl _, _, rngD_get n lo c i hi, .int _⟩
theorem enum_get : ∀ (ds : List D) (n i : Nat) (d : D), ds[i]? = some d → (enumFrom' n ds)[i]? = some (.tup [.int ((n + i : Nat) : Int), d])
  | [], _, _, _, h => by simp at h
  | x :: ds, n, 0, d, h => by simp at h; subst h; simp [enumFrom']
  | x :: ds, n, i + 1, d, h => by
    simp only [enumFrom', List.getElem?_cons_succ]
    rw [enum_get ds (n + 1) i d (by simpa using h)]
    congr 5
    omega
theorem enum_len : ∀ (ds : List D) (n : Nat), (enumFrom' n ds).length = ds.length
  | [], _ => rfl
  | x :: ds, n => by simp [enumFrom', enum_len ds]
theorem den_pair {H : Hp} {T : Addr} {x y : V} {d e : D} (bk : BOk B H) (nT : H T = none) (h1 : Den X.K Z.r H B x d) (h2 : Den X.K Z.r H B y e) : Den X.K Z.r (upd H T (.tup [x, y])) B (.ref T) (.tup [d, e]) :=
  den_newT bk nT (.cons h1 (.cons h2 .nil))
theorem wd_enumL (bk : BM B H0) (e : H0 a = some (.lst vs)) (n : ¬ B a) (l : DenL X.K Z.r H0 B vs ds) : WalkC X Z B H0 (Ite X.K a) (enumFrom' 0 ds) where
  goes := fun i H hi f => by
    rw [enum_len] at hi
    exact ⟨vs, vs[i]'(by rw [l.length]; exact hi), SqL.of (f _ _ e n), by simp [l.length, hi]⟩
  stops := fun H f => by
    rw [enum_len]
    exact ⟨vs, SqL.of (f _ _ e n), by rw [l.length]; exact Nat.le_refl _⟩
  yields := fun i H x H' hi f b y => by
    obtain ⟨T, z, rfl, nT, rfl, y⟩ := y
    obtain ⟨d, h1, h2⟩ := l.getV (y _ (SqL.of (f _ _ e n)))
    refine ⟨same_upd nT, _, enum_get ds 0 i d h1, den_pair b nT ?_ (Den.frM f bk d z h2)⟩
    rw [Nat.zero_add]; exact .int _
theorem wd_enumT (bk : BM B H0) (e : H0 a = some (.tup vs)) (l : DenL X.K Z.r H0 B vs ds) : WalkC X Z B H0 (IteT X.K a) (enumFrom' 0 ds) where
  goes := fun i H hi f => by
    rw [enum_len] at hi
    exact ⟨vs, vs[i]'(by rw [l.length]; exact hi), SqT.of (tup_frM f bk e), by simp [l.length, hi]⟩
  stops := fun H f => by
    rw [enum_len]
    exact ⟨vs, SqT.of (tup_frM f bk e), by rw [l.length]; exact Nat.le_refl _⟩
  yields := fun i H x H' hi f b y => by
    obtain ⟨T, z, rfl, nT, rfl, y⟩ := y
    obtain ⟨d, h1, h2⟩ := l.getV (y _ (SqT.of (tup_frM f bk e)))
    refine ⟨same_upd nT, _, enum_get ds 0 i d h1, den_pair b nT ?_ (Den.frM f bk d z h2)⟩
    rw [Nat.zero_add]; exact .int _
theorem wd_enumS (s : List Nat) : WalkC X Z B H0 (IteS (S s)) (enumFrom' 0 (s.map fun c => .str [c])) where
  goes := fun i H hi f => by
    rw [enum_len] at hi
    show i < (S s).cps.size
    simpa [S] using hi
  stops := fun H f => by
    rw [enum_len]
    show (S s).cps.size ≤ _
    simp [S]
  yields := fun i H x H' hi f b y => by
    obtain ⟨T, c, rfl, nT, rfl, hc⟩ := y
    have hc : s[i]? = some c := by simpa [S] using hc
    refine ⟨same_upd nT, _, enum_get _ 0 i (.str [c]) (by simp [hc]), den_pair b nT ?_ (.str [c])⟩
    rw [Nat.zero_add]; exact .int _
theorem zip_get : ∀ (as bs : List D) (i : Nat) (a b : D), as[i]? = some a → bs[i]? = some b → (zipD as bs)[i]? = some (.tup [a, b])
  | [], _, _, _, _, h, _ => by simp at h
  | _ :: _, [], _, _, _, _, h => by simp at h
  | x :: as, y :: bs, 0, a, b, h, h2 => by simp at h h2; subst h; subst h2; simp [zipD]
  | x :: as, y :: bs, i + 1, a, b, h, h2 => by
    simp only [zipD, List.getElem?_cons_succ]
    exact zip_get as bs i a b (by simpa using h) (by simpa using h2)
theorem zip_len : ∀ (as bs : List D), (zipD as bs).length = min as.length bs.length
  | [], _ => by simp [zipD]
  | _ :: _, [] => by simp [zipD]
  | x :: as, y :: bs => by simp only [zipD, List.length_cons, zip_len as bs]; omega
variable {b : Addr} {ws : List V} {es : List D}
theorem wd_zipL (bk : BM B H0) (e : H0 a = some (.lst vs)) (n : ¬ B a) (l : DenL X.K Z.r H0 B vs ds) (e2 : H0 b = some (.lst ws)) (n2 : ¬ B b) (l2 : DenL X.K Z.r H0 B ws es) : WalkC X Z B H0 (Itz X.K a b) (zipD ds es) where
  goes := fun i H hi f => by
    rw [zip_len] at hi
    have h1 : i < vs.length := by rw [l.length]; omega
    have h2 : i < ws.length := by rw [l2.length]; omega
    exact ⟨vs, ws, vs[i], ws[i], SqL.of (f _ _ e n), SqL.of (f _ _ e2 n2), by simp [h1], by simp [h2]⟩
  stops := fun H f => by
    rw [zip_len]
    exact ⟨vs, ws, SqL.of (f _ _ e n), SqL.of (f _ _ e2 n2), by rw [l.length, l2.length]; omega⟩
  yields := fun i H x H' hi f b y => by
    obtain ⟨T, z, z2, rfl, nT, rfl, y, y2⟩ := y
    obtain ⟨d, h1, h2⟩ := l.getV (y _ (SqL.of (f _ _ e n)))
    obtain ⟨d2, h3, h4⟩ := l2.getV (y2 _ (SqL.of (f _ _ e2 n2)))
    exact ⟨same_upd nT, _, zip_get ds es i d d2 h1 h3, den_pair b nT (Den.frM f bk d z h2) (Den.frM f bk d2 z2 h4)⟩
theorem wd_zipT (bk : BM B H0) (e : H0 a = some (.tup vs)) (l : DenL X.K Z.r H0 B vs ds) (e2 : H0 b = some (.tup ws)) (l2 : DenL X.K Z.r H0 B ws es) : WalkC X Z B H0 (RZ.ItzT X.K a b) (zipD ds es) where
  goes := fun i H hi f => by
    rw [zip_len] at hi
    have h1 : i < vs.length := by rw [l.length]; omega
    have h2 : i < ws.length := by rw [l2.length]; omega
    exact ⟨vs, ws, vs[i], ws[i], SqT.of (tup_frM f bk e), SqT.of (tup_frM f bk e2), by simp [h1], by simp [h2]⟩
  stops := fun H f => by
    rw [zip_len]
    exact ⟨vs, ws, SqT.of (tup_frM f bk e), SqT.of (tup_frM f bk e2), by rw [l.length, l2.length]; omega⟩
  yields := fun i H x H' hi f b y => by
    obtain ⟨T, z, z2, rfl, nT, rfl, y, y2⟩ := y
    obtain ⟨d, h1, h2⟩ := l.getV (y _ (SqT.of (tup_frM f bk e)))
    obtain ⟨d2, h3, h4⟩ := l2.getV (y2 _ (SqT.of (tup_frM f bk e2)))
    exact ⟨same_upd nT, _, zip_get ds es i d d2 h1 h3, den_pair b nT (Den.frM f bk d z h2) (Den.frM f bk d2 z2 h4)⟩
theorem rev_get {vs : List V} {ds : List D} {H : Hp} (l : DenL X.K Z.r H B vs ds) {i : Nat} {x : V} (hi : i < ds.length) (h : vs[vs.length - 1 - i]? = some x) : ∃ d, ds.reverse[i]? = some d ∧ Den X.K Z.r H B x d := by
  obtain ⟨d, h1, h2⟩ := l.getV h
  refine ⟨d, ?_, h2⟩
  rw [List.getElem?_reverse hi, ← l.length]
  exact h1
theorem wd_revL (bk : BM B H0) (e : H0 a = some (.lst vs)) (n : ¬ B a) (l : DenL X.K Z.r H0 B vs ds) : WalkC X Z B H0 (Itv X.K a vs.length) ds.reverse where
  goes := fun i H hi f => by
    rw [List.length_reverse] at hi
    have h1 : i < vs.length := by rw [l.length]; exact hi
    exact ⟨h1, vs, vs[vs.length - 1 - i], SqL.of (f _ _ e n), by simp [show vs.length - 1 - i < vs.length by omega]⟩
  stops := fun H f => by
    rw [List.length_reverse, ← l.length]; exact Nat.le_refl _
  yields := fun i H x H' hi f b y => by
    rw [List.length_reverse] at hi
    obtain ⟨rfl, y⟩ := y
    obtain ⟨d, h1, h2⟩ := rev_get l hi (y _ (SqL.of (f _ _ e n)))
    exact ⟨Same.refl _, d, h1, Den.frM f bk d x h2⟩
theorem wd_revT (bk : BM B H0) (e : H0 a = some (.tup vs)) (l : DenL X.K Z.r H0 B vs ds) : WalkC X Z B H0 (RT.ItvT X.K a vs.length) ds.reverse where
  goes := fun i H hi f => by
    rw [List.length_reverse] at hi
    have h1 : i < vs.length := by rw [l.length]; exact hi
    exact ⟨h1, vs, vs[vs.length - 1 - i], SqT.of (tup_frM f bk e), by simp [show vs.length - 1 - i < vs.length by omega]⟩
  stops := fun H f => by
    rw [List.length_reverse, ← l.length]; exact Nat.le_refl _
  yields := fun i H x H' hi f b y => by
    rw [List.length_reverse] at hi
    obtain ⟨rfl, y⟩ := y
    obtain ⟨d, h1, h2⟩ := rev_get l hi (y _ (SqT.of (tup_frM f bk e)))
    exact ⟨Same.refl _, d, h1, Den.frM f bk d x h2⟩

/-- from H0 on the walk J gives the trees ds, whatever new things are not to be met -/
def WalkD (X : Cc) (Z : Spc) (B : Addr → Prop) (H0 : Hp) (J : L2.It) (ds : List D) : Prop := ∀ C : Addr → Prop, (∀ a, C a → B a ∨ H0 a = none) → WalkC X Z C H0 J ds
theorem bm_new {C : Addr → Prop} (bk : BOk B H0) (hC : ∀ a, C a → B a ∨ H0 a = none) : BM C H0 := fun a o e c => by
  rcases hC a c with h | h
  · exact bk.bm a o e h
  · rw [e] at h; cases h
theorem not_new {C : Addr → Prop} {o : HO} (hC : ∀ a, C a → B a ∨ H0 a = none) (e : H0 a = some o) (n : ¬ B a) : ¬ C a := fun c => by
  rcases hC a c with h | h
  · exact n h
  · rw [e] at h; cases h
theorem den_new {C : Addr → Prop} (hC : ∀ a, C a → B a ∨ H0 a = none) {d : D} {v : V} (h : Den X.K Z.r H0 B v d) : Den X.K Z.r H0 C v d := Den.ban (fun a o e _ n => not_new hC e n) d v h
theorem denL_new {C : Addr → Prop} (hC : ∀ a, C a → B a ∨ H0 a = none) {d : List D} {v : List V} (h : DenL X.K Z.r H0 B v d) : DenL X.K Z.r H0 C v d := DenL.ban (fun a o e _ n => not_new hC e n) d v h
end
/-! ### the rules -/
section
variable {X : Cx} {tg : Expr}
def iAny (K : PySem.W.Frag) (tl : TE) : TI := fun σ H R => tl σ H fun x H1 => (∃ a, x = .ref a ∧ (∃ xs, SqL K H1 a xs) ∧ R (Itl K a) H1) ∨ (∃ a, x = .ref a ∧ (∃ xs, SqT K H1 a xs) ∧ R (Itt K a) H1) ∨ ∃ z, x = .str z ∧ R (Its z) H1
theorem pi_any {l : Expr} {tl : TE} (hl : PE X l tl) : PI X tg l (iAny X.K tl) := by
  refine ⟨fun pins s σ H R I h => ?_⟩
  refine thn (hl.run pins s σ H _ I h) fun v s1 ⟨x, H1, I1, r1, q1⟩ => ?_
  rcases q1 with ⟨a, e, ⟨xs, hq⟩, q⟩ | ⟨a, e, ⟨xs, hq⟩, q⟩ | ⟨z, e, q⟩
  · subst e
    cases r1
    obtain ⟨its, rv, p, hz⟩ := I1.list hq
    refine wpAny_pyIter_list p.isList ?_
    refine ⟨s1.heap.objs.size, [s1.heap.objs.size], _, _, H1, rfl, I1.kept (t' := s1.toks) fun b o e => Heap.get?_push_of_some _ e, turn_list a _, ⟨_, Heap.get?_push_size _ rfl, rfl, rfl⟩, fun b hb => ?_, q⟩
    have e : b = s1.heap.objs.size := by simpa using hb
    subst e
    exact I1.fpOk (Nat.le_refl _) (I1.hok.fresh (Nat.le_refl _))
  · subst e
    cases r1
    obtain ⟨its, rv, p, hz⟩ := I1.tuple hq
    refine wpAny_pyIter_tuple (show s1.heap.IsTuple a its.toArray from p) ?_
    refine ⟨s1.heap.objs.size, [s1.heap.objs.size], _, _, H1, rfl, I1.kept (t' := s1.toks) fun b o e => Heap.get?_push_of_some _ e, turn_tuple a _, ⟨_, Heap.get?_push_size _ rfl, rfl, rfl⟩, fun b hb => ?_, q⟩
    have e : b = s1.heap.objs.size := by simpa using hb
    subst e
    exact I1.fpOk (Nat.le_refl _) (I1.hok.fresh (Nat.le_refl _))
  · subst e
    obtain ⟨t, rfl⟩ := r1
    cases ha : z.cps.all (· < 128)
    · exact wpAny_pyIter_wide ha (pi_one (tk := s1.toks) I1 _ (turn_str _ z t "str_iterator" (.inr rfl)) ⟨_, Heap.get?_push_size _ rfl, rfl, rfl⟩ q)
    · exact wpAny_pyIter_ascii ha (pi_one (tk := s1.toks) I1 _ (turn_str _ z t "str_ascii_iterator" (.inl rfl)) ⟨_, Heap.get?_push_size _ rfl, rfl, rfl⟩ q)
def iEnA (K : PySem.W.Frag) (te : TE) : TI := fun σ H R => te σ H fun x H1 => (∃ a xs, x = .ref a ∧ SqL K H1 a xs ∧ R (Ite K a) H1) ∨ (∃ a xs, x = .ref a ∧ SqT K H1 a xs ∧ R (IteT K a) H1) ∨ ∃ z, x = .str z ∧ R (IteS z) H1
theorem pi_enumA {e : Expr} {te : TE} {p pos tpos : Pos} {elts : List Expr} {kk : Nat} (hg : Gl X "enumerate") (hm : X.mg "enumerate" = none) (ha : PE X e te) (hs : starEach [e] X.env = (false, eval e X.env) :: starEach [] X.env) :
    PI X (.Tuple elts kk tpos) (.Call (.Name "enumerate" p) [e] [] pos) (iEnA X.K te) := by
  refine ⟨fun pins s σ H R I h => ?_⟩
  refine Call_ (ld_blt I hg hm boot_enumerate (PyProof.Rows.callWith_type1 (one_arg ha I h (fun v s1 x H1 I1 r q => ?_) hs) hs))
  have app : ∀ (fp : List Addr), (∀ b ∈ fp, b = s1.heap.objs.size + 1 ∨ b = s1.heap.objs.size) → ∀ b ∈ fp, FpOk X pins H1 b := fun fp hfp b hb => by
    have hle : s1.heap.objs.size ≤ b := by
      rcases hfp b hb with z | z
      · rw [z]; exact Nat.le_add_right _ _
      · rw [z]; exact Nat.le_refl _
    exact I1.fpOk hle (I1.hok.fresh hle)
  rcases q with ⟨a, xs, rfl, hq, q⟩ | ⟨a, xs, rfl, hq, q⟩ | ⟨z, rfl, q⟩
  · obtain rfl : v = Value.ref a := r
    obtain ⟨its, rv, p', hz⟩ := I1.list hq
    refine call_enumerate_list p'.isList fun h' he hit hsz hk => wpAny_pyIter_enum he ?_
    have I2 : Inv X pins σ H1 { s1 with heap := h' } := I1.kept (t' := s1.toks) hk
    exact ⟨s1.heap.objs.size + 1, [s1.heap.objs.size + 1, s1.heap.objs.size], _, _, H1, rfl, I2, turn_enum a (s1.heap.objs.size + 1) s1.heap.objs.size, ⟨⟨.none, he⟩, hit, Nat.succ_ne_self _⟩, app _ (by simp), q⟩
  · obtain rfl : v = Value.ref a := r
    obtain ⟨its, rv, p', hz⟩ := I1.tuple hq
    refine ti_enum_begins (begins_tuple a its.toArray) p' fun h' he hit hsz hk => wpAny_pyIter_enum he ?_
    have I2 : Inv X pins σ H1 { s1 with heap := h' } := I1.kept (t' := s1.toks) hk
    exact ⟨s1.heap.objs.size + 1, [s1.heap.objs.size + 1, s1.heap.objs.size], _, _, H1, rfl, I2, turn_enumT a (s1.heap.objs.size + 1) s1.heap.objs.size, ⟨⟨.none, he⟩, ⟨_, hit, rfl, rfl⟩, Nat.succ_ne_self _⟩, app _ (by simp), q⟩
  · obtain ⟨t, rfl⟩ := r
    refine ti_enum_begins (begins_text z t) trivial fun h' he hit hsz hk => wpAny_pyIter_enum he ?_
    have I2 : Inv X pins σ H1 { s1 with heap := h' } := I1.kept (t' := s1.toks) hk
    exact ⟨s1.heap.objs.size + 1, [s1.heap.objs.size + 1, s1.heap.objs.size], _, _, H1, rfl, I2, turn_enumS z t (s1.heap.objs.size + 1) s1.heap.objs.size, ⟨⟨.none, he⟩, ⟨_, hit, rfl, rfl⟩, Nat.succ_ne_self _⟩, app _ (by simp), q⟩
end
end TI
set_option Elab.async false
set_option linter.all false
set_option maxRecDepth 100000
set_option maxHeartbeats 4000000
namespace TI
open PySem PySem.Spec PyProof.Rows L2
section
variable {X : Cx} {Z : Spc}
theorem joinS_eq (sep : List Nat) : ∀ ss : List (List Nat), Txt.join (S sep) (ss.map S) = S (joinS sep ss) := by
  intro ss
  rw [TL.join_eq]
  induction ss with
  | nil => rfl
  | cons x r ih =>
    cases r with
    | nil => rfl
    | cons y r =>
      simp only [List.map_cons] at ih ⊢
      show S x ++ S sep ++ Str.join (S sep) (S y :: r.map S) = _
      rw [ih, S_app, S_app]
      simp [joinS]
theorem sumLen_eq : ∀ ss : List (List Nat), ((ss.map S).map (·.length)).sum = sumLen ss
  | [] => rfl
  | x :: r => by
    simp only [List.map_cons, List.sum_cons, sumLen]
    rw [sumLen_eq r, S_len]
theorem find_eq : True := trivial
def rVM (K : PySem.W.Frag) (Z : Spc) (f : D → List D → M D) : V → List V → Hp → VK → Prop := fun x vs H Q => ∃ B d1 ds d g, Den K Z.r H B x d1 ∧ DenL K Z.r H B vs ds ∧ BOk B H ∧ f d1 ds g = .ok d g ∧ ∀ v H', Same H H' → Den K Z.r H' B v d → Q v H'
def Mt.T : Mt → String
  | .join => "str" | .find => "str" | .get => "dict"
def Mt.id : Mt → String
  | .join => "str.join" | .find => "str.find" | .get => "dict.get"
theorem mtr_met (hu : X.A.units + 200 < cLine) (m : Mt) : MtR X m.id (rVM X.K Z (metD m)) := by
  intro pins s σ H x vs v us Q I rx rs h
  obtain ⟨B, d1, ds, d, g, h1, h2, bk, e, q⟩ := h
  unfold metD at e
  split at e
  case h_1 sep xs =>
    obtain ⟨w, rfl, k2⟩ := den1 h2
    obtain ⟨a, ws, rfl, e1, n1, l1⟩ := lst_of k2
    cases h1
    cases en : strsOf xs with
    | none => simp only [en] at e; exact (stk_ok e).elim
    | some ss =>
      simp only [en] at e
      obtain ⟨c, e⟩ := grd_ok e
      obtain ⟨rfl, _⟩ := pure_ok e
      have c := of_decide_eq_true c
      cases strs_of en
      rw [l1.strs] at e1
      refine mt_join pins s σ H _ _ v us Q I rx rs ⟨_, a, ss.map S, rfl, rfl, .inl (by rw [List.map_map]; exact SqL.of e1), ?_, ?_⟩
      · rw [sumLen_eq, List.length_map, S_len]; exact c
      · rw [joinS_eq]; exact q _ _ (Same.refl H) (.str _)
  case h_2 ks vs' kd dd =>
    obtain ⟨w, w2, rfl, k2, k3⟩ := den2 h2
    cases hk : kyOf kd with
    | none => simp only [hk] at e; exact (stk_ok e).elim
    | some k =>
      simp only [hk] at e
      obtain ⟨rfl, _⟩ := pure_ok e
      obtain ⟨p, o, rfl, g1, g2, g3⟩ := dget_K h1 k2 hk
      obtain rfl : v = Value.ref p := rx
      obtain ⟨u1, u2, rfl, r1, r2⟩ := Vals.two rs
      refine d_get2 (by omega) I g1 r1 r2 fun w' s' I' rw' => ⟨_, H, I', rw', ?_⟩
      cases hl : lookA k ks vs' with
      | none =>
        rw [hl] at g3
        cases g3
        rw [hl] at q
        exact q _ _ (Same.refl H) k3
      | some z =>
        rw [hl] at g3
        obtain ⟨y, rfl, hy⟩ := g3
        rw [hl] at q
        exact q _ _ (Same.refl H) hy
  case h_3 ks vs' kd dd =>
    obtain ⟨w, w2, rfl, k2, k3⟩ := den2 h2
    cases hk : kyT kd with
    | none => simp only [hk] at e; exact (stk_ok e).elim
    | some k =>
      simp only [hk] at e
      obtain ⟨rfl, _⟩ := pure_ok e
      obtain ⟨p, o, rfl, g1, g2, g3⟩ := dget_T h1 k2 hk
      obtain rfl : v = Value.ref p := rx
      obtain ⟨u1, u2, rfl, r1, r2⟩ := Vals.two rs
      refine d_get2 (by omega) I g1 r1 r2 fun w' s' I' rw' => ⟨_, H, I', rw', ?_⟩
      cases hl : lookA k ks vs' with
      | none =>
        rw [hl] at g3
        cases g3
        rw [hl] at q
        exact q _ _ (Same.refl H) k3
      | some z =>
        rw [hl] at g3
        obtain ⟨y, rfl, hy⟩ := g3
        rw [hl] at q
        exact q _ _ (Same.refl H) hy
  case h_4 => exact (stk_ok e).elim
theorem pr_met (m : Mt) (d : D) (ds : List D) : Pr (metD m d ds) := by
  unfold metD
  split
  · split
    · exact .grd .ret
    · exact .stk
  · split
    · exact .ret
    · exact .stk
  · split
    · exact .ret
    · exact .stk
  · exact .stk
theorem pr_bin (o : Operator) (a b : D) : Pr (binD o a b) := by
  unfold binD
  split <;> first | exact .ret | exact .grd .ret | exact .stk
theorem pr_in (a b : D) : Pr (inD a b) := by
  unfold inD
  split
  · split
    · exact .ret
    · exact .stk
  · exact .grd .ret
  · exact .grd .ret
  · split
    · exact .ret
    · exact .stk
  · split
    · exact .ret
    · exact .stk
  · exact .stk
theorem pr_cmp (o : CmpOp) (a b : D) : Pr (cmpD o a b) := by
  unfold cmpD
  split
  · exact .grd .ret
  · exact .bind (.grd .ret) fun _ => .ret
  · exact .ret
  · exact .ret
  · exact .ret
  · exact .ret
  · exact .ret
  · exact pr_in _ _
  · exact .bind (pr_in _ _) fun _ => .ret
  · exact .ret
  · exact .ret
  · exact .stk
theorem pr_sub (a b : D) : Pr (subD a b) := by
  unfold subD
  split
  · exact .opt
  · exact .opt
  · refine .grd ?_
    split
    · exact .ret
    · exact .stk
  · split
    · exact .opt
    · exact .stk
  · split
    · exact .opt
    · exact .stk
  · exact .stk
theorem pr_slc (a : D) (l h : Option Int) : Pr (slcD a l h) := by
  unfold slcD
  split <;> first | exact .ret | exact .grd .ret | exact .stk
theorem pr_blt (b : Bl) (ds : List D) : Pr (bltD b ds) := by
  unfold bltD
  split <;> first | exact .ret | exact .grd .ret | exact .stk | (split <;> first | exact .ret | exact .stk)
theorem pr_asB (d : D) : Pr (asB d) := by
  unfold asB
  split
  · exact .ret
  · exact .stk
theorem pr_asI (d : D) : Pr (asI d) := by
  unfold asI
  split
  · exact .ret
  · exact .stk
theorem pr_items (d : D) : Pr (itemsD d) := by
  unfold itemsD
  split <;> first | exact .ret | exact .stk
theorem pr_seq (d : D) : Pr (seqD d) := by
  unfold seqD
  split <;> first | exact .ret | exact .stk
theorem pr_zip (d e : D) : Pr (zip2 d e) := by
  unfold zip2
  split <;> first | exact .ret | exact .stk
theorem pr_rng (ds : List D) : Pr (rngOf ds) := by
  unfold rngOf
  split <;> first | exact .grd .ret | exact .stk
theorem asB_ok {d : D} {g g' : G} {b : Bool} (h : asB d g = .ok b g') : d = .bl b := by
  unfold asB at h
  split at h
  · obtain ⟨rfl, _⟩ := pure_ok h; rfl
  · exact (stk_ok h).elim
theorem asI_ok {d : D} {g g' : G} {b : Int} (h : asI d g = .ok b g') : d = .int b := by
  unfold asI at h
  split at h
  · obtain ⟨rfl, _⟩ := pure_ok h; rfl
  · exact (stk_ok h).elim
end
end TI
set_option Elab.async false
set_option linter.all false
set_option maxRecDepth 100000
set_option maxHeartbeats 8000000
/-! THE THEOREM for expressions -/
namespace TI
open PySem PySem.Spec PyProof.Rows L2

structure Cov (X : Cx) (Z : Spc) (k : Nat) (cs : List (Str × Sem)) (gs : List (Str × D)) : Prop where
  c : ∀ p ∈ cs, GFX X Z k p
  g : ∀ p ∈ gs, GGX X Z p
section
variable {X : Cx} {Z : Spc} {k : Nat}
theorem Cov.l {cs cs' : List (Str × Sem)} {gs gs' : List (Str × D)} (h : Cov X Z k (cs ++ cs') (gs ++ gs')) : Cov X Z k cs gs := ⟨fun p hp => h.c p (List.mem_append_left _ hp), fun p hp => h.g p (List.mem_append_left _ hp)⟩
theorem Cov.r {cs cs' : List (Str × Sem)} {gs gs' : List (Str × D)} (h : Cov X Z k (cs ++ cs') (gs ++ gs')) : Cov X Z k cs' gs' := ⟨fun p hp => h.c p (List.mem_append_right _ hp), fun p hp => h.g p (List.mem_append_right _ hp)⟩
end
section
variable {X : Cc} {Z : Spc} {W : WX} {k : Nat} {sc : Scope}
/-- two in a row, then what is asked of the values -/
theorem seq2 {va vb vs : List Nat} {fa fb : Nat} {ma mb : List Sl → M D} {σ : L2.St} {H : Hp} {R : V → V → Hp → Prop} {α : Type} {B : Addr → Prop} {ρ : List Sl} {g : G} {ok : α → G → Hp → Prop} {f : D → D → M α}
    (p : Pre X Z B ρ g σ H (va ++ vb)) (h : Wr Z H ok (erW X Z B W σ) ((do let x ← ma ρ; let y ← mb ρ; f x y) g))
    (q : ∀ d1 d2 g2 v1 v2 H2, Pre X Z B ρ g2 σ H2 (va ++ vb) → Fr Z.F H H2 → Den X.K Z.r H2 B v1 d1 → Den X.K Z.r H2 B v2 d2 → Wr Z H2 ok (erW X Z B W σ) (f d1 d2 g2) → R v1 v2 H2) :
    tM X Z W va fa ma σ H fun x H1 => tM X Z W vb fb mb σ H1 fun y H2 => R x y H2 := by
  refine ⟨B, ρ, g, p.l, (Wr.bind h).mono fun d1 g1 H1 f1 a1 h1 v1 n1 _ => ?_⟩
  refine ⟨B, ρ, g1, (p.step f1 a1).r, (Wr.bind h1).mono fun d2 g2 H2 f2 a2 h2 v2 n2 _ => ?_⟩
  exact q d1 d2 g2 v1 v2 H2 ((p.step f1 a1).step f2 a2) (f1.trans f2) ((p.step f1 a1).den f2 n1) n2 h2
theorem seq1 {va : List Nat} {fa : Nat} {ma : List Sl → M D} {σ : L2.St} {H : Hp} {R : V → Hp → Prop} {α : Type} {B : Addr → Prop} {ρ : List Sl} {g : G} {ok : α → G → Hp → Prop} {f : D → M α}
    (p : Pre X Z B ρ g σ H va) (h : Wr Z H ok (erW X Z B W σ) ((do let x ← ma ρ; f x) g))
    (q : ∀ d1 g1 v1 H1, Pre X Z B ρ g1 σ H1 va → Fr Z.F H H1 → Den X.K Z.r H1 B v1 d1 → Wr Z H1 ok (erW X Z B W σ) (f d1 g1) → R v1 H1) :
    tM X Z W va fa ma σ H fun x H1 => R x H1 :=
  ⟨B, ρ, g, p, (Wr.bind h).mono fun d1 g1 H1 f1 a1 h1 v1 n1 _ => q d1 g1 v1 H1 (p.step f1 a1) f1 n1 h1⟩
/-- the end of a value that neither raises nor changes the state -/
theorem fin_pr {B : Addr → Prop} {H H1 : Hp} {fr : Nat} {Q : VK} {m : M D} {g : G} {er : Er → G → Hp → Prop} (pm : Pr m) (h : Wr Z H1 (okD X Z B H fr Q) er (m g)) (at1 : Z.At g H1) (nf : fr = 0) :
    ∃ d, m g = .ok d g ∧ ∀ v H', Same H1 H' → Den X.K Z.r H' B v d → Q v H' := by
  obtain ⟨d, e, k⟩ := Wr.ofPr pm h at1
  exact ⟨d, e, fun v H' s n => k H' (sameFr s) (at_same Z at1 s) v n (by rw [nf]; exact fsh0)⟩
theorem fin_prB {H1 : Hp} {Q : Bool → Hp → Prop} {m : M Bool} {g : G} {er : Er → G → Hp → Prop} (pm : Pr m) (h : Wr Z H1 (okB Q) er (m g)) (at1 : Z.At g H1) :
    ∃ d, m g = .ok d g ∧ Q d H1 := by
  obtain ⟨d, e, k⟩ := Wr.ofPr pm h at1
  exact ⟨d, e, k H1 .refl at1⟩
/-- by another way to say the same -/
theorem tM_val {vs : List Nat} {fr : Nat} {m : List Sl → M Bool} {n : List Sl → M D} (e : ∀ ρ, n ρ = (do pure (.bl (← m ρ)))) {σ : L2.St} {H : Hp} {Q : VK} (h : tM X Z W vs fr n σ H Q) (nf : fr = 0) : tMB X Z W vs m σ H fun b H' => Q (.bl b) H' := by
  obtain ⟨B, ρ, g, p, h⟩ := h
  rw [e ρ] at h
  exact ⟨B, ρ, g, p, (Wr.bind h).mono fun b g1 H1 f1 a1 h1 => Wr.pure h1 a1 _ (.bl b) (by rw [nf]; exact fsh0)⟩
end
section
variable {X : Cx} {Z : Spc} {W : WX} {k : Nat} {sc : Scope}
theorem pt_ite {c a b : Expr} {pos : Pos} {tc ta tb : TT} (hc : PT X c tc) (ha : PT X a ta) (hb : PT X b tb) : PT X (.IfExp c a b pos) (fun σ H Q => tc σ H fun k H1 => if k = true then ta σ H1 Q else tb σ H1 Q) := by
  refine ⟨fun pins s σ H Q I h => ?_⟩
  show wpAny (model X.prog X.w) X.A (do if ← isTrue c X.env (eval c X.env) then isTrue a X.env (eval a X.env) else isTrue b X.env (eval b X.env)) _ _ s
  refine wpAny_bind (thn (hc.run pins s σ H _ I h) fun k s1 ⟨H1, I1, q⟩ => ?_)
  cases k with
  | true => exact ha.run pins s1 σ H1 Q I1 (by simpa using q)
  | false => exact hb.run pins s1 σ H1 Q I1 (by simpa using q)
end
theorem ite_bind {α β : Type} {c : Prop} [Decidable c] (a b : M α) (f : α → M β) : ((if c then a else b) >>= f) = if c then a >>= f else b >>= f := by
  split <;> rfl
theorem blt_boot (b : Bl) : bootBuiltins b.name = some b.val := by cases b <;> decide +kernel
theorem blt_bn (b : Bl) : b.name ∈ bnames := by cases b <;> decide +kernel
theorem pe_blt {X : Cx} {b : Bl} {r : List V → Hp → VK → Prop} {es : List Expr} {e : Expr} {t : TA} {p pos : Pos} (hc : CallR X b.val r) (hg : Gl X b.name) (hm : X.mg b.name = none) (ha : PA X (e :: es) t)
    (he : starEach (e :: es) X.env = (false, eval e X.env) :: starEach es X.env) (hpl : (backTo pos (starEach es X.env)).any (·.1) = false) : PE X (.Call (.Name b.name p) (e :: es) [] pos) (tCB r t) := by
  cases b <;> first
    | exact pe_callB hc hg hm (blt_boot _) ha (by decide) (by decide) he hpl
    | exact pe_callTy hc hg hm (blt_boot _) ha (by decide) (by decide) he hpl
theorem ty_boot (t : Ty) : bootBuiltins t.name = some (.type (match t with | .bool => "bool" | .int => "int" | .str => "str" | .tuple => "tuple" | .list => "list")) := by cases t <;> decide +kernel
def Ty.ty : Ty → String
  | .bool => "bool" | .int => "int" | .str => "str" | .tuple => "tuple" | .list => "list"
theorem ty_bn (b : Ty) : b.name ∈ bnames := by cases b <;> decide +kernel
theorem kit_non (t : Ty) : kitB "NoneType" t.ty = some false := by cases t <;> decide +kernel
theorem kit_bl (t : Ty) : kitB "bool" t.ty = some (decide (t = .bool ∨ t = .int)) := by cases t <;> decide +kernel
theorem kit_int (t : Ty) : kitB "int" t.ty = some (decide (t = .int)) := by cases t <;> decide +kernel
theorem kit_str (t : Ty) : kitB "str" t.ty = some (decide (t = .str)) := by cases t <;> decide +kernel
theorem kit_tup (t : Ty) : kitB "tuple" t.ty = some (decide (t = .tuple)) := by cases t <;> decide +kernel
theorem kit_lst (t : Ty) : kitB "list" t.ty = some (decide (t = .list)) := by cases t <;> decide +kernel
theorem kit_dic (t : Ty) : kitB "dict" t.ty = some false := by cases t <;> decide +kernel
theorem isi_one {X : Cc} {Z : Spc} {H : Hp} {B : Addr → Prop} {v : V} {d : D} (h : Den X.K Z.r H B v d) (o : tyOk d = true) : ∃ n, TyX X.K H v (.type n) ∧ ∀ t : Ty, kitB n t.ty = some (isTy d t) := by
  cases h with
  | non => exact ⟨_, .base .non, fun t => (kit_non t).trans (by cases t <;> rfl)⟩
  | bl b => exact ⟨_, .base (.bl b), fun t => (kit_bl t).trans (by cases t <;> rfl)⟩
  | int i => exact ⟨_, .base (.int i), fun t => (kit_int t).trans (by cases t <;> rfl)⟩
  | str s => exact ⟨_, .base (.str _), fun t => (kit_str t).trans (by cases t <;> rfl)⟩
  | tup h1 _ => exact ⟨_, .base (.tup h1), fun t => (kit_tup t).trans (by cases t <;> rfl)⟩
  | lst h1 _ _ => exact ⟨_, .base (.lst h1), fun t => (kit_lst t).trans (by cases t <;> rfl)⟩
  | dK h1 _ _ _ => exact ⟨_, .base (.dK h1), fun t => (kit_dic t).trans (by cases t <;> rfl)⟩
  | dT h1 _ _ _ => exact ⟨_, .base (.dT h1), fun t => (kit_dic t).trans (by cases t <;> rfl)⟩
  | wel => cases o
end TI
set_option Elab.async false
set_option linter.all false
set_option maxRecDepth 100000
set_option maxHeartbeats 8000000
namespace TI
open PySem PySem.Spec PyProof.Rows L2

/-! ### targets -/
def SlOk (X : Cc) (Z : Spc) (B : Addr → Prop) (H : Hp) (ρ : List Sl) (σ : L2.St) (i : Nat) : Prop := ∀ d, vget ρ i = some d → ∃ v, σ[i]? = some (some v) ∧ Den X.K Z.r H B v d
mutual
def gT (K : PySem.W.Frag) : Tg → TG
  | .nm i => gName i
  | .tp ts => gTup K ts.len (gTs K ts)
def gTs (K : PySem.W.Frag) : Tgs → TGs
  | .nil => gNil
  | .cons t ts => gCons (gT K t) (gTs K ts)
end
section
variable {X : Cx} {Z : Spc} {sc : Scope}
theorem mTs_len {N : List Str} : ∀ {ts : Tgs} {es : List Expr}, mTs N sc ts es = true → es.length = ts.len
  | .nil, [], _ => rfl
  | .nil, _ :: _, h => by simp [mTs] at h
  | .cons _ _, [], h => by simp [mTs] at h
  | .cons t ts, e :: es, h => by
    simp only [mTs, Bool.and_eq_true] at h
    simp [Tgs.len, mTs_len h.2]
theorem asg_cons {t : Tg} {e : Expr} {es : List Expr} {env : Env} {N : List Str} (h : mT N sc t e = true) : assignEach (e :: es) env = (false, assign e env) :: assignEach es env := by
  cases e <;> first | rfl | (cases t <;> simp [mT] at h)
theorem asg_len {env : Env} {N : List Str} : ∀ {ts : Tgs} {es : List Expr}, mTs N sc ts es = true → (assignEach es env).length = ts.len ∧ (assignEach es env).findIdx? (·.1) = none
  | .nil, [], _ => ⟨rfl, rfl⟩
  | .nil, _ :: _, h => by simp [mTs] at h
  | .cons _ _, [], h => by simp [mTs] at h
  | .cons t ts, e :: es, h => by
    simp only [mTs, Bool.and_eq_true] at h
    obtain ⟨h1, h2⟩ := asg_len (env := env) h.2
    rw [asg_cons h.1]
    refine ⟨by simp [Tgs.len, h1], ?_⟩
    rw [List.findIdx?_cons]
    simp [h2]
mutual
theorem pg_of (nd : X.N.Nodup) (calm : X.calm = true) (hl : ∀ x, sc.names.lookup x = some .local → X.env.scope.names.lookup x = some .local) (hc : ∀ x, sc.names.lookup x = some .cell → X.env.scope.names.lookup x = some .cell ∧ X.fn x = true) :
    ∀ (t : Tg) (e : Expr), mT X.N sc t e = true → PG X e (gT X.K t)
  | .nm i, e, h => by
    cases e with
    | Name x pos =>
      simp only [mT, Bool.and_eq_true, Bool.or_eq_true, decide_eq_true_eq] at h
      rcases h.2 with q | q
      · exact pg_name nd h.1 (.inl (hl x q)) (.inr (hl x q))
      · exact pg_name nd h.1 (.inr (hc x q).1) (.inl (hc x q).2)
    | _ => simp [mT] at h
  | .tp ts, e, h => by
    cases e with
    | Tuple es kk pos =>
      simp only [mT] at h
      exact pg_tup calm (pgs_of nd calm hl hc ts es h) (n := ts.len) (asg_len h).1 (asg_len h).2
    | _ => simp [mT] at h
theorem pgs_of (nd : X.N.Nodup) (calm : X.calm = true) (hl : ∀ x, sc.names.lookup x = some .local → X.env.scope.names.lookup x = some .local) (hc : ∀ x, sc.names.lookup x = some .cell → X.env.scope.names.lookup x = some .cell ∧ X.fn x = true) :
    ∀ (ts : Tgs) (es : List Expr), mTs X.N sc ts es = true → PGs X es (gTs X.K ts)
  | .nil, [], _ => pgs_nil
  | .nil, _ :: _, h => by simp [mTs] at h
  | .cons _ _, [], h => by simp [mTs] at h
  | .cons t ts, e :: es, h => by
    simp only [mTs, Bool.and_eq_true] at h
    have h1 := pg_of nd calm hl hc t e h.1
    refine pgs_cons h1 (pgs_of nd calm hl hc ts es h.2) ?_
    rw [asg_cons h.1]; rfl
end
end
section
variable {X : Cc} {Z : Spc} {sc : Scope}
variable {B : Addr → Prop} {H : Hp} {K : PySem.W.Frag}
theorem vget_set {ρ : List Sl} {i j : Nat} {s : Sl} : vget (ρ.set i s) j = if i = j ∧ j < ρ.length then s.d else vget ρ j := by
  unfold vget
  by_cases e : i = j
  · subst e
    by_cases h : i < ρ.length
    · rw [if_pos ⟨rfl, h⟩, List.getElem?_set_self h]; rfl
    · rw [if_neg fun z => h z.2, List.set_eq_of_length_le (by omega)]
  · rw [if_neg fun z => e z.1, List.getElem?_set_ne e]
theorem slOk_set {ρ : List Sl} {σ : L2.St} {i j : Nat} {d : D} {v : V} (hi : i < σ.length) (h : Den X.K Z.r H B v d) (p : i ≠ j → SlOk X Z B H ρ σ j) : SlOk X Z B H (ρ.set i (.val d)) (σ.set i (some v)) j := by
  intro d' e
  rw [vget_set] at e
  by_cases q : i = j
  · subst q
    split at e
    · cases e
      exact ⟨v, List.getElem?_set_self hi, h⟩
    · rename_i z
      have : ¬ i < ρ.length := fun y => z ⟨rfl, y⟩
      unfold vget at e
      rw [List.getElem?_eq_none (by omega)] at e
      cases e
  · rw [if_neg fun z => q z.1] at e
    obtain ⟨w, h1, h2⟩ := p q d' e
    exact ⟨w, by rw [List.getElem?_set_ne q]; exact h1, h2⟩
theorem wipe_set {σ : L2.St} {i : Nat} {x : Option V} : ∀ {vs : List Nat}, i ∈ vs → wipe (σ.set i x) vs = wipe σ vs
  | [], h => by cases h
  | v :: vs, h => by
    simp only [wipe]
    rcases List.mem_cons.mp h with e | e
    · subst e
      by_cases q : i ∈ vs
      · rw [wipe_set q]
      · have key : ∀ ws : List Nat, i ∉ ws → wipe (σ.set i x) ws = (wipe σ ws).set i x := fun ws => by
          induction ws with
          | nil => intro _; rfl
          | cons w ws ih =>
            intro hw
            simp only [List.mem_cons, not_or] at hw
            simp only [wipe]
            rw [ih hw.2, List.set_comm _ _ hw.1]
        rw [key vs q, List.set_set]
    · rw [wipe_set e]
theorem wipe_get {σ : L2.St} {i : Nat} : ∀ {vs : List Nat}, i ∉ vs → (wipe σ vs)[i]? = σ[i]?
  | [], _ => rfl
  | v :: vs, h => by
    simp only [List.mem_cons, not_or] at h
    simp only [wipe]
    rw [List.getElem?_set_ne (Ne.symm h.1)]
    exact wipe_get h.2
theorem wipeS_get {ρ : List Sl} {i : Nat} {d : D} : ∀ {vs : List Nat}, vget (wipeS ρ vs) i = some d → i ∉ vs ∧ vget ρ i = some d
  | [], h => ⟨by simp, h⟩
  | v :: vs, h => by
    simp only [wipeS] at h
    rw [vget_set] at h
    split at h
    · cases h
    · rename_i q
      obtain ⟨h1, h2⟩ := wipeS_get h
      refine ⟨?_, h2⟩
      simp only [List.mem_cons, not_or]
      refine ⟨fun e => q ⟨e.symm, ?_⟩, h1⟩
      by_cases z : i < (wipeS ρ vs).length
      · exact z
      · unfold vget at h
        rw [List.getElem?_eq_none (by omega)] at h
        cases h
/-- after the target is bound -/
structure Bd (X : Cc) (Z : Spc) (B : Addr → Prop) (H : Hp) (P : Nat → Prop) (ws : List Nat) (ρ : List Sl) (σ : L2.St) (ρ' : List Sl) (σ' : L2.St) : Prop where
  len : σ'.length = σ.length
  sl : ∀ i, P i → SlOk X Z B H ρ' σ' i
  wp : ∀ vs : List Nat, (∀ i ∈ ws, i ∈ vs) → wipe σ' vs = wipe σ vs
mutual
theorem bindT_g : ∀ (t : Tg) (d : D) (ρ : List Sl) (g : G) (ρ' : List Sl) (g' : G), bindT t d ρ g = .ok ρ' g' → g' = g
  | .nm i, d, ρ, g, ρ', g', h => by
    unfold bindT at h
    obtain ⟨rfl, rfl⟩ := pure_ok h; rfl
  | .tp ts, d, ρ, g, ρ', g', h => by
    unfold bindT at h
    split at h
    · exact (bindTs_g ts _ ρ g ρ' g' h).1
    · exact (stk_ok h).elim
theorem bindTs_g : ∀ (ts : Tgs) (ds : List D) (ρ : List Sl) (g : G) (ρ' : List Sl) (g' : G), bindTs ts ds ρ g = .ok ρ' g' → g' = g ∧ ds.length = ts.len
  | .nil, [], ρ, g, ρ', g', h => by
    unfold bindTs at h
    obtain ⟨rfl, rfl⟩ := pure_ok h; exact ⟨rfl, rfl⟩
  | .nil, _ :: _, ρ, g, ρ', g', h => by unfold bindTs at h; exact (stk_ok h).elim
  | .cons t ts, [], ρ, g, ρ', g', h => by unfold bindTs at h; exact (stk_ok h).elim
  | .cons t ts, d :: ds, ρ, g, ρ', g', h => by
    unfold bindTs at h
    obtain ⟨ρ1, g1, h1, h2⟩ := bind_ok h
    obtain ⟨e1, e2⟩ := bindTs_g ts ds ρ1 g1 ρ' g' h2
    exact ⟨e1.trans (bindT_g t d ρ g ρ1 g1 h1), by simp [Tgs.len, e2]⟩
end
mutual
theorem gT_bind {P : Nat → Prop} {N : List Str} : ∀ (t : Tg) (d : D) (v : V) (ρ : List Sl) (σ : L2.St) (g : G) (ρ' : List Sl) (g' : G) (e : Expr) (Q : L2.St → Hp → Prop), mT N sc t e = true → σ.length = N.length →
    bindT t d ρ g = .ok ρ' g' → Den X.K Z.r H B v d → (∀ i, P i → SlOk X Z B H ρ σ i) → (∀ σ', Bd X Z B H P t.ws ρ σ ρ' σ' → Q σ' H) → gT X.K t v σ H Q
  | .nm i, d, v, ρ, σ, g, ρ', g', e, Q, hm, hl, hb, hv, hp, q => by
    unfold bindT at hb
    obtain ⟨rfl, rfl⟩ := pure_ok hb
    refine q _ ⟨by simp, fun j hj => ?_, fun vs h => wipe_set (h i (by simp [Tg.ws]))⟩
    have hi : i < σ.length := by
      cases e with
      | Name x pos =>
        simp only [mT, Bool.and_eq_true, decide_eq_true_eq] at hm
        rw [hl]
        exact (List.getElem?_eq_some_iff.mp hm.1).1
      | _ => simp [mT] at hm
    exact slOk_set hi hv fun _ => hp j hj
  | .tp ts, d, v, ρ, σ, g, ρ', g', e, Q, hm, hl, hb, hv, hp, q => by
    unfold bindT at hb
    split at hb
    · rename_i ds
      obtain ⟨a, vs, rfl, h1, h2⟩ := sqT_tup hv
      cases e with
      | Tuple es kk pos =>
        simp only [mT] at hm
        exact ⟨a, vs, rfl, SqT.of h1, h2.length.trans (bindTs_g ts ds ρ g ρ' g' hb).2, gTs_bind ts ds vs ρ σ g ρ' g' es Q hm hl hb h2 hp q⟩
      | _ => simp [mT] at hm
    · exact (stk_ok hb).elim
theorem gTs_bind {P : Nat → Prop} {N : List Str} : ∀ (ts : Tgs) (ds : List D) (vs : List V) (ρ : List Sl) (σ : L2.St) (g : G) (ρ' : List Sl) (g' : G) (es : List Expr) (Q : L2.St → Hp → Prop), mTs N sc ts es = true → σ.length = N.length →
    bindTs ts ds ρ g = .ok ρ' g' → DenL X.K Z.r H B vs ds → (∀ i, P i → SlOk X Z B H ρ σ i) → (∀ σ', Bd X Z B H P ts.ws ρ σ ρ' σ' → Q σ' H) → gTs X.K ts vs σ H Q
  | .nil, [], vs, ρ, σ, g, ρ', g', es, Q, hm, hl, hb, hv, hp, q => by
    cases hv
    unfold bindTs at hb
    obtain ⟨rfl, rfl⟩ := pure_ok hb
    exact ⟨rfl, q σ ⟨rfl, hp, fun _ _ => rfl⟩⟩
  | .nil, _ :: _, vs, ρ, σ, g, ρ', g', es, Q, hm, hl, hb, hv, hp, q => by
    unfold bindTs at hb; exact (stk_ok hb).elim
  | .cons t ts, [], vs, ρ, σ, g, ρ', g', es, Q, hm, hl, hb, hv, hp, q => by
    unfold bindTs at hb; exact (stk_ok hb).elim
  | .cons t ts, d :: ds, vs, ρ, σ, g, ρ', g', es, Q, hm, hl, hb, hv, hp, q => by
    cases es with
    | nil => simp [mTs] at hm
    | cons e es =>
      simp only [mTs, Bool.and_eq_true] at hm
      unfold bindTs at hb
      obtain ⟨ρ1, g1, hb1, hb2⟩ := bind_ok hb
      cases hv with
      | cons h1 h2 =>
        rename_i v vs
        exact ⟨v, vs, rfl, gT_bind t d v ρ σ g ρ1 g1 e (fun σ1 H1 => gTs X.K ts vs σ1 H1 Q) hm.1 hl hb1 h1 hp fun σ1 b1 =>
          gTs_bind ts ds vs ρ1 σ1 g1 ρ' g' es Q hm.2 (b1.len.trans hl) hb2 h2 b1.sl fun σ' b2 => q σ' ⟨b2.len.trans b1.len, b2.sl, fun ws h => by
            rw [b2.wp ws fun i hi => h i (by simp [Tgs.ws, hi]), b1.wp ws fun i hi => h i (by simp [Tgs.ws, hi])]⟩⟩
end
end
end TI
set_option Elab.async false
set_option linter.all false
set_option maxRecDepth 100000
set_option maxHeartbeats 8000000
namespace TI
open PySem PySem.Spec PyProof.Rows L2

def okI (X : Cc) (Z : Spc) (B : Addr → Prop) (rg : Bool) (R : L2.It → Hp → Prop) : List D → G → Hp → Prop := fun ds _ H' => ∀ J, (∀ B' : Addr → Prop, (∀ a, B' a → B a ∨ rg = true) → WalkD X Z B' H' J ds) → R J H'
def tI (X : Cc) (Z : Spc) (W : WX) (rg : Bool) (vs : List Nat) (m : List Sl → M (List D)) : TI := fun σ H R => ∃ B ρ g, Pre X Z B ρ g σ H vs ∧ Wr Z H (okI X Z B rg R) (erW X Z B W σ) (m ρ g)
abbrev W0 : WX := fun _ _ _ _ => False
mutual
theorem pr_bindT : ∀ (t : Tg) (d : D) (ρ : List Sl), Pr (bindT t d ρ)
  | .nm i, d, ρ => by unfold bindT; exact .ret
  | .tp ts, d, ρ => by
    unfold bindT
    split
    · exact pr_bindTs ts _ ρ
    · exact .stk
theorem pr_bindTs : ∀ (ts : Tgs) (ds : List D) (ρ : List Sl), Pr (bindTs ts ds ρ)
  | .nil, [], ρ => by unfold bindTs; exact .ret
  | .nil, _ :: _, ρ => by unfold bindTs; exact .stk
  | .cons _ _, [], ρ => by unfold bindTs; exact .stk
  | .cons t ts, d :: ds, ρ => by
    unfold bindTs
    exact .bind (pr_bindT t d ρ) fun ρ' => pr_bindTs ts ds ρ'
end
theorem live {Z : Spc} {g : G} {H H1 : Hp} {p : Addr} (f : Fr Z.F H H1) (a : Z.At g H1) (n : H p ≠ none) : H1 p ≠ none := fun z => n (new_back f a z)
theorem Den.there {K : PySem.W.Frag} {r : Addr} {H : Hp} {B : Addr → Prop} {v : V} {d : D} {p : Addr} (h : Den K r H B v d) (e : v = .ref p) : d = .wel ∨ ∃ o, H p = some o := by
  cases h with
  | tup h1 _ => cases e; exact .inr ⟨_, h1⟩
  | lst h1 _ _ => cases e; exact .inr ⟨_, h1⟩
  | dK h1 _ _ _ => cases e; exact .inr ⟨_, h1⟩
  | dT h1 _ _ _ => cases e; exact .inr ⟨_, h1⟩
  | wel => exact .inl rfl
  | _ => cases e
theorem wipe_idem {σ : L2.St} (vs : List Nat) : ∀ ws : List Nat, (∀ i ∈ ws, i ∈ vs) → wipe (wipe σ ws) vs = wipe σ vs
  | [], _ => rfl
  | w :: ws, h => by
    simp only [wipe]
    rw [wipe_set (h w List.mem_cons_self)]
    exact wipe_idem vs ws fun i hi => h i (List.mem_cons_of_mem _ hi)
section
variable {X : Cc} {Z : Spc} {W : WX}
theorem lc_red {it : It} {tg : Tg} {c : Op} {e : Ex} {own : List (Str × Nat)} {N : List Str} {sc' : Scope} {tge : Expr} {σ : L2.St} {H : Hp} {Q : VK} (hN : N.length = X.n) (hm : mT N sc' tg tge = true) (hws : ∀ i ∈ tg.ws, i ∈ own.map (·.2))
    (h : tM X Z W (Ex.comp tg it c e own).vs (Ex.comp tg it c e own).fresh (ev (.comp tg it c e own)) σ H Q) :
    tLc (tI X Z W it.isR it.vs (evIt it)) (gT X.K tg) (tMB X Z W0 c.vs (evC c)) (tM X Z W0 e.vs e.fresh (ev e)) (own.map (·.2)) σ H Q := by
  obtain ⟨B, ρ, g, p, h⟩ := h
  unfold ev at h
  have h : Wr Z H (okD X Z B H (Ex.comp tg it c e own).fresh Q) (erW X Z B W σ) _ := h
  refine ⟨B, ρ, g, p.l, (Wr.bind h).mono fun ds g1 H1 f1 a1 h1 J wd => ?_⟩
  obtain ⟨cl, h1⟩ := Wr.grd h1
  have cl : ds.length ≤ sizeLine := by rw [← line_eq]; exact of_decide_eq_true cl
  have h1 := Wr.bindB h1
  intro Dd nD
  -- what is not to be met: B and the new list
  let C : Addr → Prop := fun a => B a ∨ a = Dd
  have p1 := p.step f1 a1
  have nBD : ¬ B Dd := not_B p1.bok nD
  have nFD : ¬ Z.F Dd := fun z => nBD (p.sub _ z)
  have hC : ∀ a, C a → B a ∨ H1 a = none := fun a hc => by
    rcases hc with hc | rfl
    · exact .inl hc
    · exact .inr nD
  have hC0 : ∀ a, C a → B a ∨ H a = none := fun a hc => by
    rcases hc with hc | rfl
    · exact .inl hc
    · exact .inr (new_back f1 a1 nD)
  have wc := wd B (fun a h => .inl h) C hC
  let F : D → M (Option D) := fun d => do
        let ρ' ← bindT tg d (wipeS ρ (own.map (·.2)))
        let k ← nox (evC c ρ')
        if k = true then do pure (some (← nox (ev e ρ'))) else pure none
  let okF : List D → List D → G → Hp → Prop := fun acc ys g2 _ => Wr Z H1 (okD X Z B H (Ex.comp tg it c e own).fresh Q) (erW X Z B W σ) ((pure (D.lst (acc ++ ys)) : M D) g2)
  let Kd : Hp → List V → List D → Prop := fun Hi accV accD => 1 ≤ e.fresh → accD.all isCont = true → ∃ qs : List Addr, accV = qs.map .ref ∧ qs.Nodup ∧ ∀ q ∈ qs, H1 q = none ∧ q ≠ Dd ∧ Hi q ≠ none
  let Pv : Nat → Hp → Prop := fun i Hi => ∃ gi accV accD, Fr Z.F H1 Hi ∧ Z.At gi Hi ∧ Hi Dd = some (.lst accV) ∧ DenL X.K Z.r Hi C accV accD ∧ accD.length ≤ i ∧ Kd Hi accV accD ∧
    Wr Z H1 (okF accD) (erW X Z B W σ) (compL F (ds.drop i) gi)
  let Gd : Hp → Prop := fun Hi => Fr C H1 Hi ∧ BOk C Hi
  let Y : Nat → Hp → V → Hp → Prop := fun i Hi x H' => Same Hi H' ∧ ∃ d, ds[i]? = some d ∧ Den X.K Z.r H' C x d
  have wk : Walk J ds.length Gd Y := ⟨fun i Hi hi gd => wc.goes i Hi hi gd.1, fun Hi gd => wc.stops Hi gd.1, fun i Hi x H' hi gd y => wc.yields i Hi x H' hi gd.1 gd.2 y⟩
  have subC : ∀ a, Z.F a → C a := fun a z => .inl (p.sub a z)
  have bokC : ∀ {Hi gi accV}, Fr Z.F H1 Hi → Z.At gi Hi → Hi Dd = some (.lst accV) → BOk C Hi := fun {Hi gi accV} f a eD x hx => by
    rcases hx with hx | rfl
    · exact bok_step p.sub p1.bok f a x hx
    · exact ⟨_, eD, rfl⟩
  refine lc_it wk Pv ?_ ?_ ?_ ?_
  · -- the start
    refine ⟨g1, [], [], Fr.new nD, at_same Z a1 (same_upd nD), upd_same, .nil, Nat.le_refl _, fun _ _ => ⟨[], rfl, .nil, by simp⟩, ?_⟩
    rw [List.drop_zero]
    exact h1
  · rintro i Hi _ ⟨gi, accV, accD, f, a, eD, _⟩
    exact ⟨f.mono subC, bokC f a eD⟩
  · -- a turn
    rintro i x Hi H' hi ⟨gi, accV, accD, f, a, eD, lD, hlen, kd, hw⟩ ⟨sm, d, hd, hx⟩
    have ed : ds.drop i = d :: ds.drop (i + 1) := by
      have hlt := (List.getElem?_eq_some_iff.mp hd).1
      rw [List.drop_eq_getElem_cons hlt, (List.getElem?_eq_some_iff.mp hd).2]
    rw [ed] at hw
    rw [compL] at hw
    have hw := Wr.bindB hw
    have hw := Wr.bindB (show Wr Z H1 _ (erW X Z B W σ) ((bindT tg d (wipeS ρ (own.map (·.2))) >>= fun ρ' => (do
        let k ← nox (evC c ρ')
        if k = true then do pure (some (← nox (ev e ρ'))) else pure none)) gi) from hw)
    have f' : Fr Z.F H1 H' := f.trans (sameFr sm)
    have a' : Z.At gi H' := at_same Z a sm
    rcases pr_bindT tg d (wipeS ρ (own.map (·.2))) gi with ⟨ρ', eb⟩ | eb
    · rw [eb] at hw
      have hw := hw H' f' a'
      have eD' : H' Dd = some (.lst accV) := sm _ _ eD
      have fH : Fr Z.F H H' := f1.trans f'
      -- the slots
      have sl0 : ∀ j, (j ∈ own.map (·.2) ∨ j ∈ (Ex.comp tg it c e own).vs) → SlOk X Z C H' (wipeS ρ (own.map (·.2))) (wipe σ (own.map (·.2))) j := by
        intro j hj d' ej
        obtain ⟨nj, ej⟩ := wipeS_get ej
        rcases hj with hj | hj
        · exact absurd hj nj
        · obtain ⟨w, h2, h3⟩ := p.sl j hj d' ej
          refine ⟨w, by rw [wipe_get nj]; exact h2, ?_⟩
          exact Den.frM (fH.mono subC) (bm_new p.bok hC0) d' w (den_new hC0 h3)
      refine gT_bind (sc := sc') (N := N) tg d x _ _ gi ρ' gi tge _ hm (by rw [wipe_length, hN]; exact p.len) eb hx sl0 fun σ2 bd => ?_
      refine ⟨(bd.wp _ hws).trans (wipe_idem _ _ fun _ h => h), ?_⟩
      have pre : ∀ {gj : G} {Hj : Hp} {vs : List Nat}, (∀ j ∈ vs, j ∈ c.vs ++ e.vs) → Fr Z.F H' Hj → Z.At gj Hj → BOk C Hj → Pre X Z C ρ' gj σ2 Hj vs := fun {gj Hj vs} hvs fj aj bj => by
        refine ⟨subC, bj, aj, by rw [bd.len, wipe_length]; exact p.len, fun j hj d' ej => ?_⟩
        have hj' : j ∈ own.map (·.2) ∨ j ∈ (Ex.comp tg it c e own).vs := by
          by_cases q : j ∈ own.map (·.2)
          · exact .inl q
          · refine .inr ?_
            show j ∈ it.vs ++ (c.vs ++ e.vs).filter fun i => !(own.map (·.2)).contains i
            refine List.mem_append_right _ (List.mem_filter.mpr ⟨hvs j hj, ?_⟩)
            simp only [Bool.not_eq_true', List.contains_eq_mem, decide_eq_false_iff_not]
            exact q
        obtain ⟨w, h2, h3⟩ := bd.sl j hj' d' ej
        exact ⟨w, h2, Den.fr (fj.mono subC) (bokC f' a' eD') d' w h3⟩
      -- the test
      refine ⟨C, ρ', gi, pre (fun j hj => List.mem_append_left _ hj) .refl a' (bokC f' a' eD'), ?_⟩
      have hw1 := Wr.bindB hw
      refine ((Wr.nox hw1).from f').mono (fun b g3 H3 f3 a3 h3 => ?_) |>.monoE fun _ _ _ z => z.elim
      have f13 : Fr Z.F H1 H3 := f'.trans f3
      have eD3 : H3 Dd = some (.lst accV) := f3 _ _ eD' nFD
      show if b = true then _ else _
      cases b with
      | false =>
        rw [if_neg Bool.false_ne_true] at h3 ⊢
        refine ⟨g3, accV, accD, f13, a3, eD3, DenL.fr (f3.mono subC) (bokC f' a' eD') _ _ (DenL.fr (sameFr sm) (bokC f a eD) _ _ lD), Nat.le_succ_of_le hlen, (fun z1 z2 => by
          obtain ⟨qs, k1, k2, k3⟩ := kd z1 z2
          exact ⟨qs, k1, k2, fun q hq => ⟨(k3 q hq).1, (k3 q hq).2.1, live f3 a3 (live (sameFr sm) a' (k3 q hq).2.2)⟩⟩), ?_⟩
        have h4 := Wr.bindB (h3 H3 f13 a3)
        exact h4.mono fun ys g4 H4 f4 a4 q => q H4 f4 a4
      | true =>
        rw [if_pos rfl] at h3 ⊢
        have h4 := Wr.bindB h3
        refine ⟨C, ρ', g3, pre (fun j hj => List.mem_append_right _ hj) f3 a3 (bokC f13 a3 eD3), ?_⟩
        refine ((Wr.nox h4).from f13).mono (fun y g5 H5 f5 a5 h5 vy ny fy => ?_) |>.monoE fun _ _ _ z => z.elim
        have f15 : Fr Z.F H1 H5 := f13.trans f5
        have eD5 : H5 Dd = some (.lst accV) := f5 _ _ eD3 nFD
        have lD5 : DenL X.K Z.r H5 C accV accD := DenL.fr (f5.mono subC) (bokC f13 a3 eD3) _ _ (DenL.fr (f3.mono subC) (bokC f' a' eD') _ _ (DenL.fr (sameFr sm) (bokC f a eD) _ _ lD))
        have b5 := bokC f15 a5 eD5
        have hlt : accV.length < sizeLine := by
          rw [lD5.length]
          have : i < ds.length := hi
          omega
        refine ⟨accV, eD5, hlt, g5, accV ++ [vy], accD ++ [y], ?_, ?_, upd_same, ?_, ?_, ?_, ?_⟩
        · intro q o eq nq
          have : q ≠ Dd := fun z => by rw [z, nD] at eq; cases eq
          rw [upd_ne this]
          exact f15 q o eq nq
        · refine Z.loc a5 fun q o fq eq => ?_
          have : q ≠ Dd := fun z => nFD (z ▸ fq)
          rw [upd_ne this]; exact eq
        · exact (DenL.fr (Fr.put (.inr rfl)) b5 _ _ lD5).append (.cons (Den.fr (Fr.put (.inr rfl)) b5 _ _ ny) .nil)
        · rw [List.length_append, List.length_singleton]; omega
        · intro z1 z2
          rw [List.all_append, Bool.and_eq_true] at z2
          obtain ⟨qs, k1, k2, k3⟩ := kd z1 z2.1
          obtain ⟨q, rfl, hq⟩ := fy.a z1 (by simpa using z2.2)
          have lv : ∀ x ∈ qs, H3 x ≠ none := fun x hx => live f3 a3 (live (sameFr sm) a' (k3 x hx).2.2)
          have nq : q ∉ qs := fun z => lv q z hq
          have qD : q ≠ Dd := fun z => by rw [z, eD3] at hq; cases hq
          refine ⟨qs ++ [q], by rw [k1]; simp, ?_, fun x hx => ?_⟩
          · rw [List.nodup_append]
            refine ⟨k2, by simp, fun x hx y hy => ?_⟩
            obtain rfl : y = q := by simpa using hy
            exact fun z => nq (z ▸ hx)
          · rcases List.mem_append.mp hx with hx | hx
            · exact ⟨(k3 x hx).1, (k3 x hx).2.1, by rw [upd_ne (k3 x hx).2.1]; exact live f5 a5 (lv x hx)⟩
            · obtain rfl : x = q := by simpa using hx
              refine ⟨new_back f13 a3 hq, qD, ?_⟩
              rw [upd_ne qD]
              rcases ny.there rfl with z | ⟨o, eo⟩
              · rw [z] at z2; simp [isCont] at z2
              · rw [eo]; simp
        · have h6 := Wr.bindB (h5 H5 f15 a5)
          exact h6.mono fun ys g6 H6 f6 a6 q => by
            show Wr Z H1 _ _ ((pure (D.lst ((accD ++ [y]) ++ ys)) : M D) g6)
            rw [List.append_assoc]
            exact q H6 f6 a6
    · rw [eb] at hw; exact hw.elim
  · -- the end
    rintro Hn ⟨gn, accV, accD, f, a, eD, lD, _, kd, hw⟩
    rw [List.drop_length] at hw
    have hw := hw Hn f a
    have hw := hw Hn f a
    rw [List.append_nil] at hw
    refine hw (.ref Dd) (.lst eD nBD (DenL.ban (fun q o _ _ n b => n (.inl b)) _ _ lD)) ⟨fun _ _ => ⟨Dd, rfl, new_back f1 a1 nD⟩, fun z1 z2 p ep => ?_⟩
    cases ep
    obtain ⟨qs, k1, k2, k3⟩ := kd (by
      unfold Ex.fresh at z1
      split at z1 <;> omega) z2
    exact ⟨qs, by rw [eD, k1], k2, fun q hq => ⟨new_back f1 a1 (k3 q hq).1, (k3 q hq).2.1⟩⟩
end
end TI
set_option Elab.async false
set_option linter.all false
set_option maxRecDepth 100000
set_option maxHeartbeats 8000000
/-! sorted({.. for .. in ..}) -/
namespace TI
open PySem PySem.Spec PyProof.Rows L2 PpSet
def tSx (w : World) (wi : L2.TI) (g : TG) (tt : TT) (te : TE) (vs : List Nat) : TE := fun σ H Q => wi σ H fun J H1 => ∀ D, H1 D = none → ∃ W : Nat → Nat → Hp → Prop, (∃ m, W 0 m (upd H1 D (SetX w D []))) ∧ ∀ i m H, W i m H →
  (J.stop i H ∧ Q (.ref D) H) ∨ (J.go i H ∧ ∃ Nx : Hp → Prop, (∀ H', Nx H' → ∃ m', m' < m ∧ W (i + 1) m' H') ∧ ∀ x H', J.yld i H x H' → g x (wipe σ vs) H' fun σ2 H2 => wipe σ2 vs = wipe σ vs ∧ tt σ2 H2 fun b H3 =>
    if b = true then te σ2 H3 fun y H4 => ∃ (k : Ky) (ks : List Ky), y = kV k.k ∧ H4 D = some (SetX w D ks) ∧ ks.length + 1 < scanBound ∧ Nx (upd H4 D (SetX w D (addK ks k))) else Nx H3)
section
variable {X : Cx}
theorem pe_sx {elt tg iter : Expr} {ifs : List Expr} {scope : Scope} {own : List (Str × Nat)} {pos : Pos} {wi : L2.TI} {g : TG} {tt : TT} {te : TE} (hc : X.calm = true) (hN : X.N.Nodup) (hi : PI X tg iter wi) (ok : BlkOk X.N X.env.scope scope own)
    (hg : ∀ (s : Shared) (H : Hp) (C : Addr) (cl : List (Str × Addr)) (fp : List Addr), PG (X.blk s H scope (compEnvC scope cl C X.env) fp) tg g) (ht : ∀ (s : Shared) (H : Hp) (C : Addr) (cl : List (Str × Addr)) (fp : List Addr), PTs (X.blk s H scope (compEnvC scope cl C X.env) fp) ifs tt)
    (he : ∀ (s : Shared) (H : Hp) (C : Addr) (cl : List (Str × Addr)) (fp : List Addr), PE (X.blk s H scope (compEnvC scope cl C X.env) fp) elt te) (hs : ∀ x, foldedSetIterable iter X.env x = pure x) :
    PE X (.SetComp elt [⟨tg, iter, ifs, 0⟩] scope pos) (tSx X.w wi g tt te (own.map (·.2))) := by
  refine ⟨fun pins s σ H Q I h => ?_⟩
  rw [eval_SetComp]
  have hfree : ∀ y ∈ scope.names, y.2 = .free → ∃ c, X.env.cells.lookup y.1 = some c := fun y hy e => by
    rcases ok.free y hy e with k | k
    · exact I.ok.has _ (.inl k)
    · exact I.ok.has _ (.inr k)
  refine wpAny_comprehension_free (use := none) rfl hs (closure_ok hfree) ok.kind (fun y hy e => by rw [ok.uniq y hy, e])
    (thn (hi.run pins s σ H _ I h) fun xv s1 hx => thn hx fun itv s2 h2 => ?_)
  obtain ⟨it, fp, tn, J, H2, e, I2, T, st2, f2, q⟩ := h2
  subst e
  refine newSet_ok (newEnv_comp ?_)
  generalize hD : s2.heap.objs.size = D
  obtain ⟨W, ⟨m0, w0⟩, turn⟩ := q D (I2.hok.fresh (Nat.le_of_eq hD))
  generalize hs3 : ({ s2 with heap := s2.heap.push { cls := .type "set", dict := none, data := .set #[] 0 (.fresh 0 0 (!X.w.params.followText "set-order")) } } : Shared) = s3
  have I3 : Inv X pins σ (upd H2 D (SetX X.w D [])) s3 := by
    rw [← hs3]
    refine I2.laid (t' := s2.toks) (fun b o e => Heap.get?_push_of_some _ e) (Nat.le_of_eq hD) ?_
    rw [← hD]
    exact setX_new (setW_fresh X.w)
  have h3 : s3.heap = s2.heap.push { cls := .type "set", dict := none, data := .set #[] 0 (.fresh 0 0 (!X.w.params.followText "set-order")) } := by rw [← hs3]
  have sz : ∀ b ∈ fp, b < s2.heap.objs.size := fun b hb => by
    obtain ⟨o, e, _⟩ := T.obj _ _ st2 b hb
    exact Heap.lt_size e
  have f3 : ∀ b ∈ fp, FpOk X pins (upd H2 D (SetX X.w D [])) b ∧ b < s3.heap.objs.size := fun b hb => by
    refine ⟨⟨?_, (f2 b hb).2⟩, by rw [h3, Heap.size_push]; exact Nat.lt_succ_of_lt (sz b hb)⟩
    rw [upd_ne (by rw [← hD]; exact Nat.ne_of_lt (sz b hb))]
    exact (f2 b hb).1
  have st3 : tn 0 s3.heap := T.keep _ _ _ st2 fun b _ o e => by rw [h3]; exact Heap.get?_push_of_some _ e
  have I4 := block_start I3 ok hN f3
  have pg := hg s3 (upd H2 D (SetX X.w D [])) s3.heap.objs.size (cellsFrom (s3.heap.objs.size + 1) scope.names (cloFrom X.env.cells scope.names [])) fp
  have pt := ht s3 (upd H2 D (SetX X.w D [])) s3.heap.objs.size (cellsFrom (s3.heap.objs.size + 1) scope.names (cloFrom X.env.cells scope.names [])) fp
  have pe := he s3 (upd H2 D (SetX X.w D [])) s3.heap.objs.size (cellsFrom (s3.heap.objs.size + 1) scope.names (cloFrom X.env.cells scope.names [])) fp
  show codeAny _ _ (.compStart (.SetComp elt [⟨tg, iter, ifs, 0⟩] scope pos) 0 (.ref it) (.ref D) (compEnvC scope (cellsFrom (s3.heap.objs.size + 1) scope.names (cloFrom X.env.cells scope.names [])) s3.heap.objs.size X.env)) (compPost (model X.prog X.w) X.A X.xe none (EP X pins σ Q) (.ref D) s3.heap.objs.size) { s3 with heap := pushCells (s3.heap.push { cls := .type "dict", data := .dict #[] }) scope.names }
  have nfp : ∀ b ∈ fp, (upd H2 D (SetX X.w D [])) b = none := fun b hb => (f3 b hb).1.1
  generalize hce : compEnvC scope (cellsFrom (s3.heap.objs.size + 1) scope.names (cloFrom X.env.cells scope.names [])) s3.heap.objs.size X.env = ce at I4 pg pt pe ⊢
  have cL : ce.locals = s3.heap.objs.size := by subst hce; rfl
  generalize hH3 : upd H2 D (SetX X.w D []) = H3 at I3 I4 pg pt pe w0 nfp f3
  generalize hs4 : ({ s3 with heap := pushCells (s3.heap.push { cls := .type "dict", data := .dict #[] }) scope.names } : Shared) = s4 at I4 ⊢
  have st4 : tn 0 s4.heap := T.keep _ _ _ st3 fun b _ o e => by rw [← hs4]; exact pushCells_keeps _ _ _ _ (Heap.get?_push_of_some _ e)
  have stat : ∀ {σ' : L2.St} {H' : Hp} {s' : Shared}, Inv (X.blk s3 H3 scope ce fp) [] σ' H' s' → (∀ b ∈ fp, H' b = none) → ∀ b ∈ fp, FpOk (X.blk s3 H3 scope ce fp) [] H' b := fun {σ' H' s'} I' hn b hb =>
    ⟨hn b hb, (I'.ok.exf b hb).1, I'.ok.exfs b hb, .inl hb, fun x c e => (I'.ok.exf b hb).2 x c e, fun p hp => absurd (show p ∈ ([] : List (Addr × Obj)) ++ [] from hp) (by simp)⟩
  have loop : codeAny (model X.prog X.w) X.A (.compLoop (.SetComp elt [⟨tg, iter, ifs, 0⟩] scope pos) 0 (.ref it) (.ref D) ce) (compPost (model X.prog X.w) X.A X.xe none (EP X pins σ Q) (.ref D) s3.heap.objs.size) s4 := by
    refine compLoopS_any (fun n s' => ∃ i H', Inv (X.blk s3 H3 scope ce fp) [] (wipe σ (own.map (·.2))) H' s' ∧ tn i s'.heap ∧ (∀ b ∈ fp, H' b = none) ∧ W i n H') ?_ m0 ⟨0, H3, I4, st4, nfp, w0⟩
    rintro n s5 ⟨i, H5, I5, st5, n5, w5⟩
    rcases turn i n H5 w5 with ⟨stop, qq⟩ | ⟨go, Nx, hNx, step⟩
    · refine thnF (T.done (X.blk s3 H3 scope ce fp) rfl rfl rfl hc i [] s5 _ H5 (fun _ _ => False) I5 (stat I5 n5) st5 stop) fun r s6 ⟨hr, I6⟩ => ?_
      subst hr
      have I7 : Inv X pins σ H5 s6 := I3.call' (ch := fp) I6.os I6.base I6.hok I6.bare fun b hb => ⟨(f3 b hb).1.2.2.2.1, (f3 b hb).1.2.1, (f3 b hb).1.2.2.2.2.1, (f3 b hb).1.2.2.2.2.2⟩
      have nC : H5 s3.heap.objs.size = none := by
        have z : H5 ce.locals = none := I6.free
        rw [cL] at z
        exact z
      obtain ⟨m, hn, _⟩ := I6.loc
      have hn : s6.heap.Ns ce.locals m := hn
      rw [cL] at hn
      obtain ⟨f0, f1, f2', f3', f4, f5⟩ := I3.fpOk (Nat.le_refl _) nC
      exact ⟨m, hn, fun h'' sb => ⟨.ref D, H5, I7.turned (t' := s6.toks) (fun b o hb e => (sb.2 b hb).trans e) f0 f1 f3' f4 f5, rfl, qq⟩⟩
    · refine thnF (T.item (X.blk s3 H3 scope ce fp) rfl rfl rfl hc i [] s5 _ H5 (fun _ _ => False) I5 (stat I5 n5) st5 go) fun r s6 ⟨u, hr, h6⟩ => ?_
      subst hr
      refine thnF h6 fun _ s7 ⟨x, H7, I7, r7, y7, st7, n7⟩ => ?_
      have I7' := I7.pinned (stat I7 n7) (T.obj _ _ st7)
      refine thnF (pg.run _ s7 _ H7 x u _ I7' r7 (step x H7 y7)) fun _ s8 ⟨σ8, H8, I8, hw8, q8⟩ => ?_
      refine thnF (pt.run _ s8 σ8 H8 _ I8 q8) fun b s9 ⟨H9, I9, q9⟩ => ?_
      have fin : ∀ {s' : Shared} {H' : Hp}, Inv (X.blk s3 H3 scope ce fp) ([] ++ pinsAt fp s7.heap) σ8 H' s' → Nx H' → ∃ m, m < n ∧ ∃ i H', Inv (X.blk s3 H3 scope ce fp) [] (wipe σ (own.map (·.2))) H' s' ∧ tn i s'.heap ∧ (∀ b ∈ fp, H' b = none) ∧ W i m H' := fun {s' H'} I' nx => by
        obtain ⟨m', hm, w'⟩ := hNx H' nx
        have pin' : ∀ b ∈ fp, ∀ o, s7.heap.get? b = some o → s'.heap.get? b = some o ∧ H' b = none := fun b hb o e =>
          let z := I'.pin (b, o) (List.mem_append_right _ (List.mem_append_right _ (mem_pinsAt hb e)))
          ⟨z.1, z.2.1⟩
        have hl : (wipe σ (own.map (·.2))).length = σ8.length := by rw [← hw8, wipe_length]
        refine ⟨m', hm, i + 1, H', (I'.unpinned (pins := [])).weak hl (fun j v e => ?_), T.keep _ _ _ st7 fun b hb o e => (pin' b hb o e).1, fun b hb => ?_, w'⟩
        · rw [← hw8] at e
          exact (wipe_some e).1
        · obtain ⟨o, e, _⟩ := T.obj _ _ st7 b hb
          exact (pin' b hb o e).2
      cases b with
      | false =>
        simp only [Bool.false_eq_true, if_false] at q9 ⊢
        exact fin I9 q9
      | true =>
        simp only [if_true] at q9 ⊢
        refine thnF (pe.run _ s9 σ8 H9 _ I9 q9) fun z s10 ⟨yv, H10, I10, r10, k0, ks0, ey, hD10, hz10, nx⟩ => ?_
        subst ey
        exact addX_ok (X := X.blk s3 H3 scope ce fp) I10 hD10 r10 hz10 fun s11 I11 => fin I11 nx
  exact codeAny_compStart_set loop (T.self X.A 0 _ _ _ st4 loop)
/-- sorted(s), s a set of keys -/
def rSx (K : PySem.W.Frag) (w : World) (Z : Spc) : List V → Hp → VK → Prop := fun vs H Q => ∃ (a : Addr) (ks : List Ky) (B : Addr → Prop), vs = [.ref a] ∧ H a = some (SetX w a ks) ∧ BOk B H ∧ srtOk (ks.map Ky.d) = true ∧
  ∀ v H', Same H H' → Den K Z.r H' B v (.lst (sortD (ks.map Ky.d))) → (∃ p, v = .ref p ∧ H p = none) → Q v H'
theorem srtOk_perm {ds es : List D} (p : es.Perm ds) (h : srtOk ds = true) : srtOk es = true := by
  cases es with
  | nil => rfl
  | cons e es =>
    unfold srtOk
    rw [Bool.and_eq_true]
    have he : e ∈ ds := p.mem_iff.mp List.mem_cons_self
    obtain ⟨m, ms, hs, _⟩ := srtOk_sh h (fun z => by subst z; simp at he)
    refine ⟨by rw [hs e he]; rfl, List.all_eq_true.mpr fun x hx => ?_⟩
    rw [hs e he, hs x (p.mem_iff.mp (List.mem_cons_of_mem _ hx))]
    exact decide_eq_true rfl
theorem vals_keys {w : World} : ∀ {vs : List Value}, (∀ v ∈ vs, keyIs (ktO v).k v = true) → Vals (((vs.map ktO).map Ky.k).map kV) vs
  | [], _ => .nil
  | v :: vs, h => by
    refine .cons ?_ (vals_keys (w := w) fun x hx => h x (List.mem_cons_of_mem _ hx))
    have hv := h v List.mem_cons_self
    rcases keyIs_shape hv with ⟨i, t, e, e2⟩ | ⟨x, t, e, e2⟩
    · rw [e, e2]; exact ⟨t, rfl⟩
    · rw [e, e2]; exact ⟨t, rfl⟩
theorem call_sx {Z : Spc} (hcalm : X.calm = true) : CallR X (.builtin "sorted") (rSx X.K X.w Z) := by
  intro pins s σ H xs us Q I rs h
  obtain ⟨a, ks, B, rfl, ha, bk, ok, q⟩ := h
  obtain rfl := Vals.ref1 rs
  obtain ⟨o, es, ep, t, ho, hex, hd, g, pm0, nd, hb, hf, hr, hl⟩ := setX_get I ha
  refine Calls.call_function_entry PyProof.Rows.kind_sorted PyProof.Rows.plain_sorted PyProof.Rows.entry_sorted (PyProof.Rows.args_sorted1 _) ?_
  unfold Builtin.«sorted»
  refine wpAny_bind (m := checkCount "sorted" 1 1 _) (wpAny_pure ?_)
  refine wpAny_bind (collect_set (A := X.A.in1) (I.ok.hd hcalm) ⟨o, ho, hex.1, hd⟩ hf hb hr hl fun s1 vs k1 hz g1 o1 pm => ?_)
  have I1 : Inv X pins σ H s1 := I.call' (ch := []) o1 (Un.kept k1) (I.hok.kept k1) (by rw [g1]; exact I.bare) (fun _ z => nomatch z)
  have kv : ∀ v ∈ vs, keyIs (ktO v).k v = true := fun v hv => by
    obtain ⟨e, he, rfl⟩ := List.mem_map.mp (pm.mem_iff.mp hv)
    exact (g e he).1
  have pk : (vs.map ktO).Perm ks := by
    have q := pm.map ktO
    rw [List.map_map] at q
    exact q.trans pm0
  have es' : sortD ((vs.map ktO).map Ky.d) = sortD (ks.map Ky.d) := sortD_uq ok ((sortD_perm _).trans (pk.map _)) (sortD_pw _)
  have hlen : vs.length ≤ sizeLine := by
    have e1 := pm.length_eq
    rw [List.length_map] at e1
    have e2 : es.toList.length = es.size := Array.length_toList
    have e3 : es.size < 4096 := hb
    rw [sizeLine_eq]
    omega
  exact sorted_acc (A := X.A.in1) I1 (vals_keys (w := X.w) kv) bk den_keys (srtOk_perm (pk.map _) ok) hlen (by rw [es']; exact q)
end
/-! ### by trees -/
section
variable {X : Cc} {Z : Spc} {W : WX}
theorem addK_len {k : Ky} {ks : List Ky} : (addK ks k).length ≤ ks.length + 1 := by
  unfold addK
  split
  · omega
  · simp
theorem sx_red {w : World} {it : It} {tg : Tg} {c : Op} {e : Ex} {own : List (Str × Nat)} {N : List Str} {sc' : Scope} {tge : Expr} {σ : L2.St} {H : Hp} {Q : VK} (hN : N.length = X.n) (hm : mT N sc' tg tge = true) (hws : ∀ i ∈ tg.ws, i ∈ own.map (·.2))
    (h : tM X Z W (Ex.ssc tg it c e own).vs 1 (ev (.ssc tg it c e own)) σ H Q) :
    tSx w (tI X Z W it.isR it.vs (evIt it)) (gT X.K tg) (tMB X Z W0 c.vs (evC c)) (tM X Z W0 e.vs e.fresh (ev e)) (own.map (·.2)) σ H fun x H1 => rSx X.K w Z [x] H1 Q := by
  obtain ⟨B, ρ, g, p, h⟩ := h
  unfold ev at h
  have h : Wr Z H (okD X Z B H 1 Q) (erW X Z B W σ) _ := h
  refine ⟨B, ρ, g, p.l, (Wr.bind h).mono fun ds g1 H1 f1 a1 h1 J wd => ?_⟩
  obtain ⟨cl, h1⟩ := Wr.grd h1
  have cl : ds.length ≤ 4000 := of_decide_eq_true cl
  have h1 := Wr.bindB h1
  intro Dd nD
  let C : Addr → Prop := fun a => B a ∨ a = Dd
  have p1 := p.step f1 a1
  have nBD : ¬ B Dd := not_B p1.bok nD
  have nFD : ¬ Z.F Dd := fun z => nBD (p.sub _ z)
  have hC : ∀ a, C a → B a ∨ H1 a = none := fun a hc => by
    rcases hc with hc | rfl
    · exact .inl hc
    · exact .inr nD
  have hC0 : ∀ a, C a → B a ∨ H a = none := fun a hc => by
    rcases hc with hc | rfl
    · exact .inl hc
    · exact .inr (new_back f1 a1 nD)
  have wc := wd B (fun a h => .inl h) C hC
  let F : D → M (Option Ky) := fun d => do
        let ρ' ← bindT tg d (wipeS ρ (own.map (·.2)))
        let k ← nox (evC c ρ')
        if k = true then do
          let y ← nox (ev e ρ')
          let q ← opt (kyOf y)
          pure (some q) else pure none
  let fin : List Ky → M D := fun ks => grd (srtOk ((ks.foldl addK []).map Ky.d)) (pure (.lst (sortD ((ks.foldl addK []).map Ky.d))))
  let okF : List Ky → List Ky → G → Hp → Prop := fun acc ys g2 _ => Wr Z H1 (okD X Z B H 1 Q) (erW X Z B W σ) (fin (acc ++ ys) g2)
  let Pv : Nat → Hp → Prop := fun i Hi => ∃ gi acc, Fr Z.F H1 Hi ∧ Z.At gi Hi ∧ Hi Dd = some (SetX w Dd (acc.foldl addK [])) ∧ acc.length ≤ i ∧ (acc.foldl addK []).length ≤ acc.length ∧
    Wr Z H1 (okF acc) (erW X Z B W σ) (compL F (ds.drop i) gi)
  let Gd : Hp → Prop := fun Hi => Fr C H1 Hi ∧ BOk C Hi
  let Y : Nat → Hp → V → Hp → Prop := fun i Hi x H' => Same Hi H' ∧ ∃ d, ds[i]? = some d ∧ Den X.K Z.r H' C x d
  have wk : Walk J ds.length Gd Y := ⟨fun i Hi hi gd => wc.goes i Hi hi gd.1, fun Hi gd => wc.stops Hi gd.1, fun i Hi x H' hi gd y => wc.yields i Hi x H' hi gd.1 gd.2 y⟩
  have subC : ∀ a, Z.F a → C a := fun a z => .inl (p.sub a z)
  have bokC : ∀ {Hi gi ks}, Fr Z.F H1 Hi → Z.At gi Hi → Hi Dd = some (SetX w Dd ks) → BOk C Hi := fun {Hi gi ks} f a eD x hx => by
    rcases hx with hx | rfl
    · exact bok_step p.sub p1.bok f a x hx
    · exact ⟨_, eD, rfl⟩
  refine ⟨fun i m Hi => m = ds.length - i ∧ i ≤ ds.length ∧ Pv i Hi, ⟨ds.length, by simp, Nat.zero_le _, g1, [], Fr.new nD, at_same Z a1 (same_upd nD), upd_same, Nat.le_refl _, Nat.le_refl _, by rw [List.drop_zero]; exact h1⟩, ?_⟩
  rintro i m Hi ⟨rfl, hi, gi, acc, f, a, eD, hlen, hal, hw⟩
  have gd : Gd Hi := ⟨f.mono subC, bokC f a eD⟩
  by_cases hlt : i < ds.length
  · refine .inr ⟨wk.goes i Hi hlt gd, Pv (i + 1), fun H' p' => ⟨ds.length - (i + 1), by omega, rfl, hlt, p'⟩, fun x H' y => ?_⟩
    obtain ⟨sm, d, hd, hx⟩ := wk.yields i Hi x H' hlt gd y
    have ed : ds.drop i = d :: ds.drop (i + 1) := by
      rw [List.drop_eq_getElem_cons hlt, (List.getElem?_eq_some_iff.mp hd).2]
    rw [ed] at hw
    rw [compL] at hw
    have hw := Wr.bindB hw
    have hw := Wr.bindB (show Wr Z H1 _ (erW X Z B W σ) ((bindT tg d (wipeS ρ (own.map (·.2))) >>= fun ρ' => (do
        let k ← nox (evC c ρ')
        if k = true then do
          let y ← nox (ev e ρ')
          let q ← opt (kyOf y)
          pure (some q) else pure none)) gi) from hw)
    have f' : Fr Z.F H1 H' := f.trans (sameFr sm)
    have a' : Z.At gi H' := at_same Z a sm
    rcases pr_bindT tg d (wipeS ρ (own.map (·.2))) gi with ⟨ρ', eb⟩ | eb
    · rw [eb] at hw
      have hw := hw H' f' a'
      have eD' : H' Dd = some (SetX w Dd (acc.foldl addK [])) := sm _ _ eD
      have fH : Fr Z.F H H' := f1.trans f'
      have sl0 : ∀ j, (j ∈ own.map (·.2) ∨ j ∈ (Ex.ssc tg it c e own).vs) → SlOk X Z C H' (wipeS ρ (own.map (·.2))) (wipe σ (own.map (·.2))) j := by
        intro j hj d' ej
        obtain ⟨nj, ej⟩ := wipeS_get ej
        rcases hj with hj | hj
        · exact absurd hj nj
        · obtain ⟨w, h2, h3⟩ := p.sl j hj d' ej
          refine ⟨w, by rw [wipe_get nj]; exact h2, ?_⟩
          exact Den.frM (fH.mono subC) (bm_new p.bok hC0) d' w (den_new hC0 h3)
      refine gT_bind (sc := sc') (N := N) tg d x _ _ gi ρ' gi tge _ hm (by rw [wipe_length, hN]; exact p.len) eb hx sl0 fun σ2 bd => ?_
      refine ⟨(bd.wp _ hws).trans (wipe_idem _ _ fun _ h => h), ?_⟩
      have pre : ∀ {gj : G} {Hj : Hp} {vs : List Nat}, (∀ j ∈ vs, j ∈ c.vs ++ e.vs) → Fr Z.F H' Hj → Z.At gj Hj → BOk C Hj → Pre X Z C ρ' gj σ2 Hj vs := fun {gj Hj vs} hvs fj aj bj => by
        refine ⟨subC, bj, aj, by rw [bd.len, wipe_length]; exact p.len, fun j hj d' ej => ?_⟩
        have hj' : j ∈ own.map (·.2) ∨ j ∈ (Ex.ssc tg it c e own).vs := by
          by_cases q : j ∈ own.map (·.2)
          · exact .inl q
          · refine .inr ?_
            show j ∈ it.vs ++ (c.vs ++ e.vs).filter fun i => !(own.map (·.2)).contains i
            refine List.mem_append_right _ (List.mem_filter.mpr ⟨hvs j hj, ?_⟩)
            simp only [Bool.not_eq_true', List.contains_eq_mem, decide_eq_false_iff_not]
            exact q
        obtain ⟨w, h2, h3⟩ := bd.sl j hj' d' ej
        exact ⟨w, h2, Den.fr (fj.mono subC) (bokC f' a' eD') d' w h3⟩
      refine ⟨C, ρ', gi, pre (fun j hj => List.mem_append_left _ hj) .refl a' (bokC f' a' eD'), ?_⟩
      have hw1 := Wr.bindB hw
      refine ((Wr.nox hw1).from f').mono (fun b g3 H3 f3 a3 h3 => ?_) |>.monoE fun _ _ _ z => z.elim
      have f13 : Fr Z.F H1 H3 := f'.trans f3
      have eD3 : H3 Dd = some (SetX w Dd (acc.foldl addK [])) := f3 _ _ eD' nFD
      show if b = true then _ else _
      cases b with
      | false =>
        rw [if_neg Bool.false_ne_true] at h3 ⊢
        refine ⟨g3, acc, f13, a3, eD3, Nat.le_succ_of_le hlen, hal, ?_⟩
        have h4 := Wr.bindB (h3 H3 f13 a3)
        exact h4.mono fun ys g4 H4 f4 a4 q => q H4 f4 a4
      | true =>
        rw [if_pos rfl] at h3 ⊢
        have h4 := Wr.bindB h3
        refine ⟨C, ρ', g3, pre (fun j hj => List.mem_append_right _ hj) f3 a3 (bokC f13 a3 eD3), ?_⟩
        refine ((Wr.nox h4).from f13).mono (fun y g5 H5 f5 a5 h5 vy ny fy => ?_) |>.monoE fun _ _ _ z => z.elim
        have f15 : Fr Z.F H1 H5 := f13.trans f5
        have eD5 : H5 Dd = some (SetX w Dd (acc.foldl addK [])) := f5 _ _ eD3 nFD
        have h6 := Wr.bindB h5
        obtain ⟨k0, ek, h6⟩ := Wr.opt (h6.from f15) a5
        have h7 := Wr.bindB (h6 H5 f15 a5)
        refine ⟨k0, acc.foldl addK [], kyOf_den ny ek, eD5, ?_, g5, acc ++ [k0], ?_, ?_, ?_, ?_, ?_, ?_⟩
        · show _ < 4096
          omega
        · intro q o eq nq
          have : q ≠ Dd := fun z => by rw [z, nD] at eq; cases eq
          rw [upd_ne this]
          exact f15 q o eq nq
        · refine Z.loc a5 fun q o fq eq => ?_
          have : q ≠ Dd := fun z => nFD (z ▸ fq)
          rw [upd_ne this]; exact eq
        · rw [List.foldl_append]; exact upd_same
        · rw [List.length_append, List.length_singleton]; omega
        · rw [List.foldl_append, List.length_append, List.length_singleton]
          have := addK_len (k := k0) (ks := acc.foldl addK [])
          show (addK (acc.foldl addK []) k0).length ≤ _
          omega
        · exact h7.mono fun ys g6 H6 f6 a6 q => by
            show Wr Z H1 _ _ (fin ((acc ++ [k0]) ++ ys) g6)
            rw [List.append_assoc]
            exact q H6 f6 a6
    · rw [eb] at hw; exact hw.elim
  · have ei : i = ds.length := by omega
    subst ei
    refine .inl ⟨wk.stops Hi gd, ?_⟩
    rw [List.drop_length] at hw
    have hw := hw Hi f a
    have hw : Wr Z H1 (okD X Z B H 1 Q) (erW X Z B W σ) (fin (acc ++ []) gi) := hw
    rw [List.append_nil] at hw
    obtain ⟨ok, hw⟩ := Wr.grd hw
    refine ⟨Dd, acc.foldl addK [], B, rfl, eD, bok_step p.sub p1.bok f a, ok, fun v H' sm n ⟨pp, e1, e2⟩ => ?_⟩
    exact hw H' (f.trans (sameFr sm)) (at_same Z a sm) v n ⟨fun _ _ => ⟨pp, e1, new_back (f1.trans f) a e2⟩, fun z => absurd z (by decide)⟩
end
end TI
set_option Elab.async false
set_option linter.all false
set_option maxRecDepth 100000
set_option maxHeartbeats 8000000
namespace TI
open PySem PySem.Spec PyProof.Rows L2

abbrev G0 : G := []
theorem den_int {K : PySem.W.Frag} {r : Addr} {H : Hp} {B : Addr → Prop} {v : V} {i : Int} (h : Den K r H B v (.int i)) : v = .int i := by cases h; rfl
theorem mem_bn {x : Str} (h : bnames.contains x = true) : x ∈ bnames := by simpa using h
theorem Cov.sub {X : Cx} {Z : Spc} {k : Nat} {cs cs' : List (Str × Sem)} {gs gs' : List (Str × D)} (h : Cov X Z k cs gs) (a : ∀ p ∈ cs', p ∈ cs) (b : ∀ p ∈ gs', p ∈ gs) : Cov X Z k cs' gs' := ⟨fun p hp => h.c p (a p hp), fun p hp => h.g p (b p hp)⟩
/-- a block's context -/
theorem XOk.blk {X : Cx} {Z : Spc} {W : WX} {k : Nat} {sc scope : Scope} (O : XOk X Z W k sc) (s : Shared) (H : Hp) (C : Addr) (cl : List (Str × Addr)) (fp : List Addr) :
    XOk (X.blk s H scope (compEnvC scope cl C X.env) fp) Z W0 k (relS scope sc) :=
  ⟨by rw [← O.sc]; rfl, O.nd, O.calm, O.room, takes_none5, O.bn⟩
theorem nonempty_plain {N : List Str} {sc : Scope} {es : Exs} {v : Expr} {vs : List Expr} (h : mEs N sc es (v :: vs) = true) {env : Env} {pos : Pos} :
    starEach (v :: vs) env = (false, eval v env) :: starEach vs env ∧ (backTo pos (starEach vs env)).any (·.1) = false :=
  ⟨star_cons (mEs_plain h v List.mem_cons_self), star_any fun a ha => mEs_plain h a (List.mem_cons_of_mem _ ha)⟩
theorem Cov.blk {X : Cx} {Z : Spc} {k : Nat} {cs : List (Str × Sem)} {gs : List (Str × D)} (h : Cov X Z k cs gs) {s : Shared} {H : Hp} {scope : Scope} {cenv : Env} {fp : List Addr} : Cov (X.blk s H scope cenv fp) Z k cs gs := ⟨fun p hp => h.c p hp, fun p hp => h.g p hp⟩
theorem walk_sub {B B' C : Addr → Prop} {H : Hp} (hB : ∀ a, B' a → B a ∨ false = true) (hC : ∀ a, C a → B' a ∨ H a = none) : ∀ a, C a → B a ∨ H a = none := fun a h => by
  rcases hC a h with h | h
  · rcases hB a h with h | h
    · exact .inl h
    · cases h
  · exact .inr h
theorem rec_ty {K : PySem.W.Frag} {r : Addr} {H : Hp} {B : Addr → Prop} {m : Mt} {d : D} {v : V} (c : recOk m d = true) (n : Den K r H B v d) : tyV K m.T v H := by
  cases n with
  | str s => cases m <;> first | rfl | cases c
  | dK h1 _ _ _ => cases m <;> first | exact .inr (.inr (.inl ⟨rfl, .inl ⟨_, h1⟩⟩)) | cases c
  | dT h1 _ _ _ => cases m <;> first | exact .inr (.inr (.inl ⟨rfl, .inr ⟨_, h1⟩⟩)) | cases c
  | _ => cases m <;> cases c
theorem tg_tup {N : List Str} {sc : Scope} {it : It} {tg : Tg} {t : Expr} (h : okTg it tg = true) (m : mT N sc tg t = true) (z : okTg it (.nm 0) = false) : ∃ es kk pos, t = .Tuple es kk pos := by
  cases tg with
  | nm i =>
    have : okTg it (.nm i) = okTg it (.nm 0) := by cases it <;> rfl
    rw [this, z] at h; cases h
  | tp ts =>
    cases t <;> first | exact ⟨_, _, _, rfl⟩ | simp [mT] at m
theorem mI_fold {N : List Str} {sc : Scope} {it : It} {a : Expr} (h : mI N sc it a = true) {env : Env} : ∀ x, foldedSetIterable a env x = pure x := by
  cases it with
  | of e =>
    unfold mI at h
    exact no_fold (mE_plain h)
  | _ =>
    cases a <;> first | (intro _; rfl) | simp [mI] at h
theorem pa_tys {X : Cx} {Z : Spc} {W : WX} {k : Nat} {sc : Scope} (O : XOk X Z W k sc) : ∀ (ts : List Ty) (es : List Expr), mTys sc ts es = true → PA X es (fun σ H Q => Q (ts.map fun t => .ty t.ty) H) ∧ ∀ a ∈ es, plainE a = true
  | [], [], _ => ⟨pa_mono pa_nil fun _ _ _ h => h, by simp⟩
  | [], _ :: _, h => by simp [mTys] at h
  | _ :: _, [], h => by simp [mTys] at h
  | t :: ts, e :: es, h => by
    cases e with
    | Name x pos =>
      simp only [mTys, Bool.and_eq_true, decide_eq_true_eq] at h
      obtain ⟨rfl, h1, h2⟩ := h
      obtain ⟨g1, g2, g3⟩ := glo_gl O h1
      obtain ⟨i1, i2⟩ := pa_tys O ts es h2
      refine ⟨pa_mono (pa_cons (pe_bltn (v := .ty t.ty) g1 (O.bn _ (ty_bn t)) (ty_boot t) ?_ g3 g2) i1) fun _ _ _ h => h, fun a ha => ?_⟩
      · cases t <;> rfl
      · rcases List.mem_cons.mp ha with rfl | ha
        · rfl
        · exact i2 a ha
    | _ => simp [mTys] at h
theorem kit_all {X : Cc} {Z : Spc} {H : Hp} {B : Addr → Prop} {v : V} {d : D} (h : Den X.K Z.r H B v d) (o : tyOk d = true) : ∃ n, TyX X.K H v (.type n) ∧ ∀ ts : List Ty, PySem.W.kitAny X.K (.type n) (ts.map fun t => .type t.ty) = some (ts.any (isTy d)) := by
  obtain ⟨n, h1, h2⟩ := isi_one h o
  refine ⟨n, h1, fun ts => ?_⟩
  induction ts with
  | nil => exact kitAny_nil
  | cons t ts ih =>
    refine kitAny_cons (kit_ty (h2 t)) (r := (t :: ts).any (isTy d)) (fun e => ?_) fun e => ?_
    · rw [List.any_cons, e, Bool.false_or]; exact ih
    · rw [List.any_cons, e, Bool.true_or]
theorem cls_all : ∀ ts : List Ty, Paired ClsV (ts.map fun t => .ty t.ty) (ts.map fun t => .type t.ty)
  | [] => .nil
  | t :: ts => .cons (.ty _) (cls_all ts)
theorem pw_mono {X : Cx} {e : Expr} {t u : TT} (h : PW X e t) (k : ∀ σ H Q, u σ H Q → t σ H Q) : PW X e u := ⟨fun wh pins s σ H Q I q => h.run wh pins s σ H Q I (k σ H Q q)⟩
theorem pts_mono {X : Cx} {e : List Expr} {t u : TT} (h : PTs X e t) (k : ∀ σ H Q, u σ H Q → t σ H Q) : PTs X e u := ⟨fun pins s σ H Q I q => h.run pins s σ H Q I (k σ H Q q)⟩
theorem pi_mono {X : Cx} {tg e : Expr} {t u : TI} (h : PI X tg e t) (k : ∀ σ H Q, u σ H Q → t σ H Q) : PI X tg e u := ⟨fun pins s σ H Q I q => h.run pins s σ H Q I (k σ H Q q)⟩
theorem mI_rng {N : List Str} {sc : Scope} {es : Exs} {a : Expr} (h : mI N sc (.rng es) a = true) : ∃ py v vs pos, a = .Call (.Name "range" py) (v :: vs) [] pos ∧ mGlo sc "range" = true ∧ vs.length < 3 ∧ mEs N sc es (v :: vs) = true := by
  unfold mI at h
  split at h
  all_goals first
    | exact absurd h Bool.false_ne_true
    | skip
  all_goals rename_i heq
  all_goals cases heq
  simp only [Bool.and_eq_true, decide_eq_true_eq] at h
  obtain ⟨rfl, h1, h2, h3⟩ := h
  exact ⟨_, _, _, _, rfl, h1, h2, h3⟩
theorem mEs_1 {N : List Str} {sc : Scope} {es : Exs} {a : Expr} (h : mEs N sc es [a] = true) : ∃ e, es = .cons e .nil := by
  rcases es with _ | ⟨e, _ | ⟨e2, es⟩⟩ <;> first | exact ⟨_, rfl⟩ | simp [mEs] at h
theorem mEs_2 {N : List Str} {sc : Scope} {es : Exs} {a b : Expr} (h : mEs N sc es [a, b] = true) : ∃ e e2, es = .cons e (.cons e2 .nil) := by
  rcases es with _ | ⟨e, _ | ⟨e2, _ | ⟨e3, es⟩⟩⟩ <;> first | exact ⟨_, _, rfl⟩ | simp [mEs] at h
theorem mEs_3 {N : List Str} {sc : Scope} {es : Exs} {a b c : Expr} (h : mEs N sc es [a, b, c] = true) : ∃ e e2 e3, es = .cons e (.cons e2 (.cons e3 .nil)) := by
  rcases es with _ | ⟨e, _ | ⟨e2, _ | ⟨e3, _ | ⟨e4, es⟩⟩⟩⟩ <;> first | exact ⟨_, _, _, rfl⟩ | simp [mEs] at h
theorem rng_ok1 {d : D} {g g' : G} {rs : List D} (h : rngOf [d] g = .ok rs g') : ∃ j, d = .int j ∧ smallB j = true ∧ rs = rngD 0 1 j.toNat := by
  cases d with
  | int j =>
    obtain ⟨c, e⟩ := grd_ok (show grd (smallB j) (pure (rngD 0 1 j.toNat)) g = _ from h)
    obtain ⟨rfl, _⟩ := pure_ok e
    exact ⟨_, rfl, c, rfl⟩
  | _ => exact (stk_ok (g := G0) h).elim
theorem rng_ok2 {d e : D} {g g' : G} {rs : List D} (h : rngOf [d, e] g = .ok rs g') : ∃ i j, d = .int i ∧ e = .int j ∧ (smallB i = true ∧ smallB j = true) ∧ rs = rngD i 1 (j - i).toNat := by
  cases d with
  | int i =>
    cases e with
    | int j =>
      obtain ⟨c, e⟩ := grd_ok (show grd (smallB i && smallB j) (pure (rngD i 1 (j - i).toNat)) g = _ from h)
      obtain ⟨rfl, _⟩ := pure_ok e
      exact ⟨_, _, rfl, rfl, Bool.and_eq_true_iff.mp c, rfl⟩
    | _ => exact (stk_ok (g := G0) h).elim
  | _ => exact (stk_ok (g := G0) h).elim
theorem rng_ok3 {d e f : D} {g g' : G} {rs : List D} (h : rngOf [d, e, f] g = .ok rs g') : ∃ i j, d = .int i ∧ e = .int j ∧ f = .int (-1) ∧ smallB i = true ∧ smallB j = true ∧ rs = rngD i (-1) (i - j).toNat := by
  cases d with
  | int i =>
    cases e with
    | int j =>
      cases f with
      | int c =>
        obtain ⟨c, e⟩ := grd_ok (show grd (smallB i && smallB j && (c == -1)) (pure (rngD i c (i - j).toNat)) g = _ from h)
        obtain ⟨rfl, _⟩ := pure_ok e
        simp only [Bool.and_eq_true, beq_iff_eq] at c
        obtain ⟨⟨c1, c2⟩, rfl⟩ := c
        exact ⟨_, _, rfl, rfl, rfl, c1, c2, rfl⟩
      | _ => exact (stk_ok (g := G0) h).elim
    | _ => exact (stk_ok (g := G0) h).elim
  | _ => exact (stk_ok (g := G0) h).elim
theorem star_cons2 {a b : Expr} {env : Env} (h : plainE a = true) (h2 : plainE b = true) : starEach [a, b] env = [(false, eval a env), (false, eval b env)] := by
  rw [star_cons h, star_cons h2]; rfl
section
variable {Z : Spc} {H : Hp} {α : Type} {ok : α → G → Hp → Prop} {er : Er → G → Hp → Prop} {ρ : List Sl} {g : G} {f : List D → M α}
theorem evs_ok1 {e1 : Ex} {g' : G} {ds : List D} (h : evs (.cons e1 .nil) ρ g = .ok ds g') : ∃ d, ds = [d] := by
  simp only [evs] at h
  obtain ⟨d, g1, _, h⟩ := bind_ok h
  obtain ⟨ds', g2, h1, h⟩ := bind_ok h
  obtain ⟨rfl, _⟩ := pure_ok h1
  obtain ⟨rfl, _⟩ := pure_ok h
  exact ⟨_, rfl⟩
theorem evs_ok2 {e1 e2 : Ex} {g' : G} {ds : List D} (h : evs (.cons e1 (.cons e2 .nil)) ρ g = .ok ds g') : ∃ d d2, ds = [d, d2] := by
  rw [evs] at h
  obtain ⟨d, g1, _, h⟩ := bind_ok h
  obtain ⟨ds', g2, h1, h⟩ := bind_ok h
  obtain ⟨d2, rfl⟩ := evs_ok1 h1
  obtain ⟨rfl, _⟩ := pure_ok h
  exact ⟨_, _, rfl⟩
theorem evs_ok3 {e1 e2 e3 : Ex} {g' : G} {ds : List D} (h : evs (.cons e1 (.cons e2 (.cons e3 .nil))) ρ g = .ok ds g') : ∃ d d2 d3, ds = [d, d2, d3] := by
  rw [evs] at h
  obtain ⟨d, g1, _, h⟩ := bind_ok h
  obtain ⟨ds', g2, h1, h⟩ := bind_ok h
  obtain ⟨d2, d3, rfl⟩ := evs_ok2 h1
  obtain ⟨rfl, _⟩ := pure_ok h
  exact ⟨_, _, _, rfl⟩
theorem wr_evsP {es : Exs} {P : List D → Prop} (k : ∀ ds g', evs es ρ g = .ok ds g' → P ds) (h : Wr Z H ok er ((evs es ρ >>= f) g)) : Wr Z H (fun ds g1 H1 => Wr Z H1 ok er (f ds g1) ∧ P ds) er (evs es ρ g) := by
  have := Wr.bind h
  cases e : evs es ρ g with
  | ok ds g' => rw [e] at this; exact fun H' f a => ⟨this H' f a, k ds g' e⟩
  | err x g' => rw [e] at this; exact this
  | stuck => rw [e] at this; exact this
theorem wr_evs1 {e1 : Ex} (h : Wr Z H ok er ((evs (.cons e1 .nil) ρ >>= f) g)) : Wr Z H (fun ds g1 H1 => Wr Z H1 ok er (f ds g1) ∧ ∃ d, ds = [d]) er (evs (.cons e1 .nil) ρ g) := wr_evsP (fun _ _ e => evs_ok1 e) h
theorem wr_evs2 {e1 e2 : Ex} (h : Wr Z H ok er ((evs (.cons e1 (.cons e2 .nil)) ρ >>= f) g)) : Wr Z H (fun ds g1 H1 => Wr Z H1 ok er (f ds g1) ∧ ∃ d d2, ds = [d, d2]) er (evs (.cons e1 (.cons e2 .nil)) ρ g) := wr_evsP (fun _ _ e => evs_ok2 e) h
theorem wr_evs3 {e1 e2 e3 : Ex} (h : Wr Z H ok er ((evs (.cons e1 (.cons e2 (.cons e3 .nil))) ρ >>= f) g)) : Wr Z H (fun ds g1 H1 => Wr Z H1 ok er (f ds g1) ∧ ∃ d d2 d3, ds = [d, d2, d3]) er (evs (.cons e1 (.cons e2 (.cons e3 .nil))) ρ g) := wr_evsP (fun _ _ e => evs_ok3 e) h
end
theorem mI_enu {N : List Str} {sc : Scope} {e : Ex} {a : Expr} (h : mI N sc (.enu e) a = true) : ∃ py v pos, a = .Call (.Name "enumerate" py) [v] [] pos ∧ mGlo sc "enumerate" = true ∧ mE N sc e v = true := by
  unfold mI at h
  split at h
  all_goals first
    | exact absurd h Bool.false_ne_true
    | skip
  all_goals rename_i heq
  all_goals cases heq
  simp only [Bool.and_eq_true, decide_eq_true_eq] at h
  obtain ⟨rfl, h1, h2⟩ := h
  exact ⟨_, _, _, rfl, h1, h2⟩
theorem mI_rev {N : List Str} {sc : Scope} {e : Ex} {a : Expr} (h : mI N sc (.rev e) a = true) : ∃ py v pos, a = .Call (.Name "reversed" py) [v] [] pos ∧ mGlo sc "reversed" = true ∧ mE N sc e v = true := by
  unfold mI at h
  split at h
  all_goals first
    | exact absurd h Bool.false_ne_true
    | skip
  all_goals rename_i heq
  all_goals cases heq
  simp only [Bool.and_eq_true, decide_eq_true_eq] at h
  obtain ⟨rfl, h1, h2⟩ := h
  exact ⟨_, _, _, rfl, h1, h2⟩
theorem mI_zip {N : List Str} {sc : Scope} {b c : Ex} {a : Expr} (h : mI N sc (.zip b c) a = true) : ∃ py v w pos, a = .Call (.Name "zip" py) [v, w] [] pos ∧ mGlo sc "zip" = true ∧ mE N sc b v = true ∧ mE N sc c w = true := by
  unfold mI at h
  split at h
  all_goals first
    | exact absurd h Bool.false_ne_true
    | skip
  all_goals rename_i heq
  all_goals cases heq
  simp only [Bool.and_eq_true, decide_eq_true_eq] at h
  obtain ⟨rfl, h1, h2, h3⟩ := h
  exact ⟨_, _, _, _, rfl, h1, h2, h3⟩
theorem po_part {te : TE} {X : Cx} {e : Expr} (h : PE X e te) : PO X (some e) (tPart te) := po_some h
def mIsiF (N : List Str) (sc : Scope) (a : Ex) (ts : List Ty) (q : Expr) : Bool := match q with
  | .Call (.Name y _) [v, .Tuple vs _ _] [] _ => decide (y = ("isinstance" : Str)) && (mGlo sc y && (mE N sc a v && mTys sc ts vs))
  | _ => false
theorem mE_isiF {N : List Str} {sc : Scope} {a : Ex} {ts : List Ty} {q : Expr} : mE N sc (.isi a ts false) q = (plainE q && mIsiF N sc a ts q) := by
  rcases ts with _ | ⟨_, _ | _⟩ <;> (unfold mE; rfl)
/-- [x for x in d], d a dict -/
theorem keyl_red {X : Cc} {Z : Spc} {W : WX} {i x : Nat} {N : List Str} {sc' : Scope} {y2 : Str} {p2 : Pos} {σ : L2.St} {H : Hp} {Q : VK} (hN : N.length = X.n) (hm : mT N sc' (.nm x) (.Name y2 p2) = true)
    (h : tM X Z W (Ex.keyl i x).vs 1 (ev (.keyl i x)) σ H Q) : tLockE (tLc (iKeys (tVar i)) (gT X.K (.nm x)) tYes (tVar x) ([(y2, x)].map (·.2))) σ H Q := by
  obtain ⟨B, ρ, g, p, w⟩ := h
  unfold ev at w
  cases e : vget ρ i with
  | none => rw [e] at w; exact w.elim
  | some d =>
    rw [e] at w
    cases d with
    | dK ks vs =>
      obtain ⟨v, s1, n⟩ := p.sl i (by simp [Ex.vs]) _ e
      obtain ⟨cl, w⟩ := Wr.grd (show Wr Z H (okD X Z B H 1 Q) (erW X Z B W σ) ((grd (decide (ks.length ≤ line)) (pure (.lst (ks.map Ky.d))) : M D) g) from w)
      have cl := of_decide_eq_true cl
      rw [line_eq] at cl
      cases n with
      | @dK a kvs _ _ h1 nb h2 h3 =>
        have hx : x < σ.length := by
          simp only [mT, Bool.and_eq_true, decide_eq_true_eq] at hm
          rw [p.len, ← hN]
          exact (List.getElem?_eq_some_iff.mp hm.1).1
        refine ⟨a, .dK kvs, h1, trivial, fun od => ⟨_, s1, a, od, rfl, .inl ⟨kvs, upd_same, ?_⟩⟩⟩
        intro D nD
        have nDa : D ≠ a := fun z => by rw [z, upd_same] at nD; cases nD
        have nD0 : H D = none := by rw [upd_ne nDa] at nD; exact nD
        have hz : kvs.length ≤ sizeLine := by
          have := congrArg List.length h2
          rw [List.length_map, List.length_map] at this
          omega
        let Hf : Nat → Hp := fun j => upd (upd H a (.frz od (.dK kvs))) D (.lst ((kvs.take j).map fun q => kV q.1))
        have wk : Walk (Itk a od kvs) kvs.length (fun Hi => Hi a = some (.frz od (.dK kvs))) (fun j Hi y H' => H' = Hi ∧ ∃ k v, kvs[j]? = some (k, v) ∧ y = kV k) := ⟨fun j Hi hj e => ⟨e, hj⟩, fun Hi e => ⟨e, Nat.le_refl _⟩, fun j Hi y H' hj e yy => yy⟩
        refine lc_it wk (fun j Hi => Hi = Hf j) rfl ?_ ?_ ?_
        · rintro j Hi _ rfl
          show upd (upd H a _) D _ a = _
          rw [upd_ne (Ne.symm nDa), upd_same]
        · rintro j y Hi H' hj rfl ⟨rfl, k, v, hk, rfl⟩
          show (fun σ2 H2 => _) _ _
          refine ⟨by show wipe ((wipe σ [x]).set x _) [x] = wipe σ [x]; simp [wipe], ?_⟩
          refine ⟨kV k, by show ((wipe σ [x]).set x (some (kV k)))[x]? = _; rw [List.getElem?_set_self (by rw [wipe_length]; exact hx)], _, upd_same, ?_, ?_⟩
          · rw [List.length_map, List.length_take]
            omega
          · show upd (Hf j) D _ = Hf (j + 1)
            have e2 : (kvs.take (j + 1)).map (fun q => kV q.1) = (kvs.take j).map (fun q => kV q.1) ++ [kV k] := by
              rw [List.take_add_one, hk, List.map_append]; rfl
            show upd (upd _ D _) D _ = upd _ D _
            rw [upd_upd, e2]
        · rintro Hn rfl
          refine ⟨by show upd (upd H a _) D _ a = _; rw [upd_ne (Ne.symm nDa), upd_same], ?_⟩
          have eH : upd (Hf kvs.length) a (.dK kvs) = upd H D (.lst ((ks.map Ky.k).map kV)) := by
            funext b
            by_cases b1 : b = a
            · subst b1
              rw [upd_same, upd_ne (Ne.symm nDa), h1]
            · rw [upd_ne b1]
              show upd (upd H a _) D _ b = _
              by_cases b2 : b = D
              · subst b2
                rw [upd_same, upd_same, List.take_length, ← h2, List.map_map]; rfl
              · rw [upd_ne b2, upd_ne b1, upd_ne b2]
          rw [eH]
          have w2 := w.from (sameFr (same_upd (o := .lst ((ks.map Ky.k).map kV)) nD0))
          exact Wr.pure w2 (at_same Z p.at' (same_upd nD0)) _ (den_newL p.bok nD0 den_keys) (fsh1 nD0)
    | _ => exact w.elim
/-- max(l, default=d), ints -/
def rMxd (K : PySem.W.Frag) : List V → List V → Hp → VK → Prop := fun xs zs H Q => ∃ (a : Addr) (ns : List Int) (d : Int), xs = [.ref a] ∧ zs = [.int d] ∧ SqL K H a (ns.map V.int) ∧ match ns with
  | [] => Q (.int d) H
  | n :: ns => Q (.int (maxI n ns)) H
theorem maxOf_ints : ∀ (n : Int) (ns : List Int), PySem.W.maxOf n ns = maxI n ns := by
  intro n ns
  induction ns generalizing n with
  | nil => rfl
  | cons m ns ih =>
    show (m :: ns).foldl _ n = maxI (if n < m then m else n) ns
    rw [← ih]
    show ns.foldl _ _ = ns.foldl _ _
    congr 1
    show (if decide (n < m) = true then m else n) = _
    simp
theorem call_mxd {X : Cx} {Z : Spc} (hc : X.calm = true) (hu : X.A.units + 200 < cLine) : CallRK X (.builtin "max") ["default"] (rMxd X.K) := by
  intro pins s σ H xs zs us ws Q I rs rz h
  obtain ⟨a, ns, d, rfl, rfl, hq, q⟩ := h
  obtain rfl := Vals.ref1 rs
  obtain ⟨u, rfl, ru⟩ := vals1 rz
  obtain ⟨t, rfl⟩ := ru
  obtain ⟨its, rv, p', hz⟩ := I.list hq
  refine PySem.W.max_list_datum_default (α := Int) (xs := ns) (I.ok.hd hc) p'.isList (PySem.W.HoldAll.of_ints rv.ints) (by show X.A.units + 1 + 0 < cLine; omega) (fun e h' tk hk => ?_) fun y ys i v h' tk e hi hv hk => ?_
  · subst e
    exact ⟨.int d, H, I.kept (t' := tk) hk, ⟨t, rfl⟩, q⟩
  · subst e
    obtain ⟨t', rfl⟩ := PySem.W.int_of_holds hv
    rw [maxOf_ints] at hv ⊢
    exact ⟨.int (maxI y ys), H, I.kept (t' := tk) hk, ⟨_, rfl⟩, q⟩
def tstE : Ex → Bool
  | .nt _ | .and _ | .or _ | .ite _ _ _ | .cmp _ _ _ | .cmp2 _ _ _ _ _ => true
  | _ => false
theorem mE_dfl {N : List Str} {sc : Scope} {e : Ex} {a : Expr} (h : mE N sc e a = true) (t : tstE e = false) (env : Env) : ∀ whole, isTrue a env whole = (do let v ← whole; standAt a.pos; holding [v] (truthy v)) := by
  cases e
  all_goals first
    | (exact absurd (show true = false from t) (by decide))
    | skip
  case isi x ts o =>
    cases o with
    | false =>
      rw [mE_isiF] at h
      replace h := (Bool.and_eq_true_iff.mp h).2
      unfold mIsiF at h
      split at h <;> first | (intro _; rfl) | exact absurd h Bool.false_ne_true
    | true =>
      rcases ts with _ | ⟨t1, _ | _⟩
      all_goals unfold mE at h
      · exact absurd h Bool.false_ne_true
      · replace h := (Bool.and_eq_true_iff.mp h).2
        split at h <;> first | (intro _; rfl) | exact absurd h Bool.false_ne_true
      · exact absurd h Bool.false_ne_true
  all_goals unfold mE at h
  case rvs => exact absurd h Bool.false_ne_true
  all_goals replace h := (Bool.and_eq_true_iff.mp h).2
  all_goals (split at h <;> first | (intro _; rfl) | exact absurd h Bool.false_ne_true)
section
variable {X : Cx} {Z : Spc} {W : WX}
theorem pt_dfl {e : Ex} {a : Expr} (h : PE X a (tM (cc X) Z W e.vs e.fresh (ev e))) (he : ∀ env whole, isTrue a env whole = (do let v ← whole; standAt a.pos; holding [v] (truthy v))) : PT X a (tMB (cc X) Z W e.vs (fun ρ => ev e ρ >>= asB)) :=
  pt_mono (pt_val h (he _)) fun σ H Q ⟨B, ρ, g, p, w⟩ => ⟨B, ρ, g, p, (Wr.bind w).mono fun d g1 H1 f1 a1 w1 v n _ => by
    obtain ⟨b, e, kk⟩ := Wr.ofPr (pr_asB _) w1 a1
    cases asB_ok e
    cases n
    exact ⟨b, rfl, kk H1 .refl a1⟩⟩
end
section
variable {Z : Spc} {k : Nat}
mutual
theorem ex_pe : ∀ (e : Ex) (X : Cx) (W : WX) (sc : Scope) (a : Expr), XOk X Z W k sc → Cov X Z k e.calls e.globs → mE X.N sc e a = true → PE X a (tM (cc X) Z W e.vs e.fresh (ev e))
  | .var i, X, W, sc, q, O, cv, h => by
    unfold mE at h
    replace h := (Bool.and_eq_true_iff.mp h).2
    split at h
    · rename_i x pos
      obtain ⟨h1, h2, h3, h4⟩ := name_vis h
      refine pe_mono (pe_var h1 (by rw [O.sc]; exact h2) h3 h4) fun σ H Q ⟨B, ρ, g, p, w⟩ => ?_
      unfold ev at w
      obtain ⟨d, e, w⟩ := Wr.opt w p.at'
      obtain ⟨v, h5, h6⟩ := p.sl i (by simp [Ex.vs]) d e
      exact ⟨v, h5, w v h6 fsh0⟩
    · exact absurd h Bool.false_ne_true
  | .con c, X, W, sc, q, O, cv, h => by
    unfold mE at h
    replace h := (Bool.and_eq_true_iff.mp h).2
    split at h
    · rename_i c' kk pos
      have h := of_decide_eq_true h
      subst h
      cases c with
      | none =>
          refine pe_mono pe_non fun σ H Q ⟨B, ρ, g, p, w⟩ => ?_
          unfold ev conD at w
          exact Wr.pure w p.at' _ .non fsh0
      | bool b =>
          refine pe_mono pe_bl fun σ H Q ⟨B, ρ, g, p, w⟩ => ?_
          unfold ev conD at w
          exact Wr.pure w p.at' _ (.bl b) fsh0
      | int i =>
          refine pe_mono pe_int fun σ H Q ⟨B, ρ, g, p, w⟩ => ?_
          unfold ev conD at w
          exact Wr.pure w p.at' _ (.int i) fsh0
      | str x =>
          refine pe_mono pe_str fun σ H Q ⟨B, ρ, g, p, w⟩ => ?_
          unfold ev conD at w
          refine Wr.pure w p.at' _ ?_ fsh0
          have := Den.str (K := X.K) (r := Z.r) (H := H) (B := B) x.cps.toList
          rw [S_of] at this
          exact this
      | _ => exact ⟨fun pins s σ H Q I ⟨B, ρ, g, p, w⟩ => by unfold ev conD at w; exact w.elim⟩
    · exact absurd h Bool.false_ne_true
  | .glo x d, X, W, sc, q, O, cv, h => by
    unfold mE at h
    replace h := (Bool.and_eq_true_iff.mp h).2
    split at h
    · rename_i y pos
      obtain ⟨h1, h2⟩ := Bool.and_eq_true_iff.mp h
      have h1 := of_decide_eq_true h1
      subst h1
      obtain ⟨g1, g2, g3⟩ := glo_gl O h2
      obtain ⟨u, v, e1, e2, e3⟩ := cv.g (x, d) (by simp [Ex.globs])
      refine pe_mono (pe_glob g1 e1 e2 g2) fun σ H Q ⟨B, ρ, g, p, w⟩ => ?_
      unfold ev at w
      exact Wr.pure w p.at' _ (e3 H B) fsh0
    · exact absurd h Bool.false_ne_true
  | .bin o a b, X, W, sc, q, O, cv, h => by
    unfold mE at h
    replace h := (Bool.and_eq_true_iff.mp h).2
    split at h
    · rename_i l o' r pos
      simp only [Bool.and_eq_true, decide_eq_true_eq] at h
      obtain ⟨rfl, h1, h2⟩ := h
      refine pe_mono (pe_op (opr_bin (Z := Z) o) (ex_pe a X W sc l O cv.l h1) (ex_pe b X W sc r O cv.r h2)) fun σ H Q ⟨B, ρ, g, p, w⟩ => ?_
      unfold ev at w
      refine seq2 (vs := []) p w fun d1 d2 g2 v1 v2 H2 p2 f n1 n2 w2 => ?_
      obtain ⟨d, e, kk⟩ := Wr.ofPr (pr_bin _ _ _) w2 p2.at'
      refine ⟨B, d1, d2, d, g2, n1, n2, p2.bok, e, fun v' H' sm n' fr => kk H' (sameFr sm) (at_same Z p2.at' sm) v' n' ⟨fun _ ic => ?_, fun z => absurd (show 2 ≤ 1 from z) (by decide)⟩⟩
      obtain ⟨pp, e1, e2⟩ := fr ic
      exact ⟨pp, e1, new_back f p2.at' e2⟩
    · exact absurd h Bool.false_ne_true
  | .neg a, X, W, sc, q, O, cv, h => by
    unfold mE at h
    replace h := (Bool.and_eq_true_iff.mp h).2
    split at h
    · rename_i x pos
      refine pe_mono (pe_un un_neg (ex_pe a X W sc x O cv h)) fun σ H Q ⟨B, ρ, g, p, w⟩ => ?_
      unfold ev at w
      refine seq1 p w fun d1 g1 v1 H1 p1 f n1 w1 => ?_
      obtain ⟨i, e, kk⟩ := Wr.ofPr (pr_asI _) (Wr.bind w1) p1.at'
      cases asI_ok e
      cases n1
      exact ⟨i, rfl, Wr.pure (kk H1 .refl p1.at') p1.at' _ (.int _) fsh0⟩
    · exact absurd h Bool.false_ne_true
  | .nt a, X, W, sc, q, O, cv, h => by
    unfold mE at h
    replace h := (Bool.and_eq_true_iff.mp h).2
    split at h
    · rename_i x pos
      refine pe_mono (pe_not (ex_pe a X W sc x O cv h)) fun σ H Q ⟨B, ρ, g, p, w⟩ => ?_
      unfold ev at w
      refine seq1 p w fun d1 g1 v1 H1 p1 f n1 w1 => ?_
      obtain ⟨i, e, kk⟩ := Wr.ofPr (pr_asB _) (Wr.bind w1) p1.at'
      cases asB_ok e
      cases n1
      exact ⟨i, rfl, Wr.pure (kk H1 .refl p1.at') p1.at' _ (.bl _) fsh0⟩
    · exact absurd h Bool.false_ne_true
  | .cmp o a b, X, W, sc, q, O, cv, h => by
    unfold mE at h
    replace h := (Bool.and_eq_true_iff.mp h).2
    split at h
    · rename_i l o' r pos
      simp only [Bool.and_eq_true, decide_eq_true_eq] at h
      obtain ⟨rfl, h1, h2⟩ := h
      refine pe_mono (pe_cmpR (opr_cmp (Z := Z) O.u o) (ex_pe a X W sc l O cv.l h1) (ex_pe b X W sc r O cv.r h2) (no_behind (mE_plain h2))) fun σ H Q ⟨B, ρ, g, p, w⟩ => ?_
      unfold ev at w
      refine seq2 (vs := []) p w fun d1 d2 g2 v1 v2 H2 p2 f n1 n2 w2 => ?_
      obtain ⟨b, e, kk⟩ := Wr.ofPr (pr_cmp _ _ _) (Wr.bind w2) p2.at'
      exact ⟨B, d1, d2, b, g2, n1, n2, e, Wr.pure (kk H2 .refl p2.at') p2.at' _ (.bl b) fsh0⟩
    · exact absurd h Bool.false_ne_true
  | .cmp2 o o2 a b c, X, W, sc, q, O, cv, h => by
    unfold mE at h
    replace h := (Bool.and_eq_true_iff.mp h).2
    split at h
    · rename_i l o' p' m r pos
      simp only [Bool.and_eq_true, decide_eq_true_eq] at h
      obtain ⟨rfl, rfl, h1, h2, h3⟩ := h
      refine pe_mono (pe_chain (opr_cmp (Z := Z) O.u o) (opr_cmp (Z := Z) O.u o2) (ex_pe a X W sc l O cv.l h1) (ex_pe b X W sc m O cv.r.l h2) (ex_pe c X W sc r O cv.r.r h3) (no_behind (mE_plain h3))) fun σ H Q ⟨B, ρ, g, p, w⟩ => ?_
      unfold ev at w
      refine ⟨B, ρ, g, p.l, (Wr.bind w).mono fun d1 g1 H1 f1 a1 w1 v1 n1 _ => ?_⟩
      have p1 := p.step f1 a1
      refine ⟨B, ρ, g1, p1.r.l, (Wr.bind w1).mono fun d2 g2 H2 f2 a2 w2 v2 n2 _ => ?_⟩
      have p2 := p1.step f2 a2
      obtain ⟨kb, e, w3⟩ := Wr.ofPr (pr_cmp _ _ _) (Wr.bind w2) p2.at'
      have w3 := w3 H2 .refl p2.at'
      refine ⟨B, d1, d2, kb, g2, p1.den f2 n1, n2, e, kb, rfl, ?_⟩
      cases kb with
      | false =>
        rw [if_neg Bool.false_ne_true] at w3 ⊢
        exact Wr.pure w3 p2.at' _ (.bl false) fsh0
      | true =>
        rw [if_pos rfl] at w3 ⊢
        refine ⟨B, ρ, g2, p2.r.r, (Wr.bind w3).mono fun d3 g3 H3 f3 a3 w4 v3 n3 _ => ?_⟩
        have p3 := p2.step f3 a3
        obtain ⟨b, e, kk⟩ := Wr.ofPr (pr_cmp _ _ _) (Wr.bind w4) p3.at'
        exact ⟨B, d2, d3, b, g3, p2.den f3 n2, n3, e, Wr.pure (kk H3 .refl p3.at') p3.at' _ (.bl b) fsh0⟩
    · exact absurd h Bool.false_ne_true
  | .and es, X, W, sc, q, O, cv, h => by
    unfold mE at h
    replace h := (Bool.and_eq_true_iff.mp h).2
    split at h
    · rename_i vs pos
      refine pe_mono (exs_and es X W sc vs pos O cv h) fun σ H Q ⟨B, ρ, g, p, w⟩ => ⟨B, ρ, g, p, by unfold ev at w; exact w⟩
    · exact absurd h Bool.false_ne_true
  | .or es, X, W, sc, q, O, cv, h => by
    unfold mE at h
    replace h := (Bool.and_eq_true_iff.mp h).2
    split at h
    · rename_i vs pos
      refine pe_mono (exs_or es X W sc vs pos O cv h) fun σ H Q ⟨B, ρ, g, p, w⟩ => ⟨B, ρ, g, p, by unfold ev at w; exact w⟩
    · exact absurd h Bool.false_ne_true
  | .ite c a b, X, W, sc, q, O, cv, h => by
    unfold mE at h
    replace h := (Bool.and_eq_true_iff.mp h).2
    split at h
    · rename_i c' a' b' pos
      simp only [Bool.and_eq_true] at h
      obtain ⟨h1, h2, h3⟩ := h
      refine pe_mono (pe_ifExp (ex_pt c X W sc c' O cv.l h1) (ex_pe a X W sc a' O cv.r.l h2) (ex_pe b X W sc b' O cv.r.r h3)) fun σ H Q ⟨B, ρ, g, p, w⟩ => ?_
      unfold ev at w
      replace w : Wr Z H (okD (cc X) Z B H 0 Q) (erW (cc X) Z B W σ) (((ev c ρ >>= asB) >>= fun kb => if kb = true then ev a ρ else ev b ρ) g) := by
        rw [bind_assoc]; exact w
      refine ⟨B, ρ, g, p.l, (Wr.bind w).mono fun kb g1 H1 f1 a1 w1 => ?_⟩
      have p1 := p.step f1 a1
      show if kb = true then _ else _
      cases kb with
      | true =>
        rw [if_pos rfl] at w1 ⊢
        exact ⟨B, ρ, g1, p1.r.l, w1.mono fun d g2 H2 _ _ w2 v n _ => w2 v n fsh0⟩
      | false =>
        rw [if_neg Bool.false_ne_true] at w1 ⊢
        exact ⟨B, ρ, g1, p1.r.r, w1.mono fun d g2 H2 _ _ w2 v n _ => w2 v n fsh0⟩
    · exact absurd h Bool.false_ne_true
  | .tup es, X, W, sc, q, O, cv, h => by
    unfold mE at h
    replace h := (Bool.and_eq_true_iff.mp h).2
    split at h
    · rename_i vs kk pos
      refine pe_mono (pe_tup (exs_pa es X W sc vs O cv h)) fun σ H Q ⟨B, ρ, g, p, w⟩ => ?_
      unfold ev at w
      refine ⟨B, ρ, g, p, (Wr.bind w).mono fun ds g1 H1 f1 a1 w1 vs n => ?_⟩
      have p1 := p.step f1 a1
      obtain ⟨c, w1⟩ := Wr.grd w1
      have c := of_decide_eq_true c
      rw [line_eq] at c
      refine ⟨by rw [n.length]; exact c, fun pp np => ?_⟩
      have w2 := (w1.from (sameFr (same_upd (o := .tup vs) np)))
      exact Wr.pure w2 (at_same Z a1 (same_upd np)) _ (den_newT p1.bok np n) fsh0
    · exact absurd h Bool.false_ne_true
  | .lst es, X, W, sc, q, O, cv, h => by
    unfold mE at h
    replace h := (Bool.and_eq_true_iff.mp h).2
    split at h
    · rename_i vs pos
      refine pe_mono (pe_lst (exs_pa es X W sc vs O cv h)) fun σ H Q ⟨B, ρ, g, p, w⟩ => ?_
      unfold ev at w
      refine ⟨B, ρ, g, p, (Wr.bind w).mono fun ds g1 H1 f1 a1 w1 vs n => ?_⟩
      have p1 := p.step f1 a1
      obtain ⟨c, w1⟩ := Wr.grd w1
      have c := of_decide_eq_true c
      rw [line_eq] at c
      refine ⟨by rw [n.length]; exact c, fun pp np => ?_⟩
      have w2 := (w1.from (sameFr (same_upd (o := .lst vs) np)))
      exact Wr.pure w2 (at_same Z a1 (same_upd np)) _ (den_newL p1.bok np n) (fsh1 (new_back f1 a1 np))
    · exact absurd h Bool.false_ne_true
  | .sub a i, X, W, sc, q, O, cv, h => by
    unfold mE at h
    replace h := (Bool.and_eq_true_iff.mp h).2
    split at h
    · rename_i l r pos
      simp only [Bool.and_eq_true] at h
      obtain ⟨h1, h2⟩ := h
      refine pe_mono (pe_ix (ixr_sub (Z := Z) O.u) (ex_pe a X W sc l O cv.l h1) (ex_pe i X W sc r O cv.r h2) (plain_ix (mE_plain h2))) fun σ H Q ⟨B, ρ, g, p, w⟩ => ?_
      unfold ev at w
      refine seq2 (vs := []) p w fun d1 d2 g2 v1 v2 H2 p2 f n1 n2 w2 => ?_
      obtain ⟨d, e, kk⟩ := fin_pr (pr_sub _ _) w2 p2.at' rfl
      exact ⟨B, d1, d2, d, g2, n1, n2, p2.bok, e, kk⟩
    · exact absurd h Bool.false_ne_true
  | .slc a lo hi, X, W, sc, q, O, cv, h => by
    unfold mE at h
    replace h := (Bool.and_eq_true_iff.mp h).2
    split at h
    · rename_i v l u p1 p2
      simp only [Bool.and_eq_true] at h
      obtain ⟨h1, h2, h3⟩ := h
      refine pe_mono (pe_slice (slr_slc (Z := Z)) (ex_pe a X W sc v O cv.l h1) (op_po lo X W sc l O cv.r.l h2) (op_po hi X W sc u O cv.r.r h3)) fun σ H Q ⟨B, ρ, g, p, w⟩ => ?_
      unfold ev at w
      refine ⟨B, ρ, g, p.l, (Wr.bind w).mono fun d1 g1 H1 f1 a1 w1 v1 n1 _ => ?_⟩
      have p1 := p.step f1 a1
      refine ⟨B, ρ, g1, p1.r.l, (Wr.bind w1).mono fun l2 g2 H2 f2 a2 w2 => ?_⟩
      have p2 := p1.step f2 a2
      refine ⟨B, ρ, g2, p2.r.r, (Wr.bind w2).mono fun h3 g3 H3 f3 a3 w3 => ?_⟩
      have p3 := p2.step f3 a3
      obtain ⟨d, e, kk⟩ := fin_pr (pr_slc _ _ _) w3 p3.at' rfl
      exact ⟨B, d1, d, g3, p2.den f3 (p1.den f2 n1), p3.bok, e, kk⟩
    · exact absurd h Bool.false_ne_true
  | .rvs a, X, W, sc, q, O, cv, h => by unfold mE at h; exact absurd h Bool.false_ne_true
  | .call x f es, X, W, sc, q, O, cv, h => by
    unfold mE at h
    replace h := (Bool.and_eq_true_iff.mp h).2
    split at h
    · rename_i y py v vs pos
      simp only [Bool.and_eq_true, decide_eq_true_eq] at h
      obtain ⟨rfl, h1, h2⟩ := h
      obtain ⟨g1, g2, g3⟩ := glo_gl O h1
      obtain ⟨ad, fd, ps, e1, e2, e3, e4, e5⟩ := (cv.c (x, f) (by simp [Ex.calls])).ex
      obtain ⟨st1, st2⟩ := nonempty_plain h2 (env := X.env) (pos := pos)
      have cv' : Cov X Z k es.calls es.globs := cv.sub (fun p hp => by simp [Ex.calls, hp]) (fun p hp => by simpa [Ex.globs] using hp)
      refine pe_mono (pe_callS e4 O.room g1 e1 e2 e3 (fun σ => passAt O.tk σ) (exs_pa es X W sc (v :: vs) O cv' h2) g2 st1 st2) fun σ H Q ⟨B, ρ, g, p, w⟩ => ?_
      unfold ev at w
      refine ⟨B, ρ, g, p, (Wr.bind w).mono fun ds g1 H1 f1 a1 w1 us n => ?_⟩
      have p1 := p.step f1 a1
      refine ⟨?_, B, ds, g1, p.sub, p1.bok, a1, n, ?_⟩
      · rw [n.length]
        by_cases z : ds.length = ps.length
        · exact z
        · rw [show f ds g1 = .stuck from e5 ds g1 z] at w1; exact w1.elim
      · exact (w1.mono fun d g2 H2 f2 a2 w2 v n => w2 v n fsh0).monoE fun e g2 H2 w2 => w2
    · exact absurd h Bool.false_ne_true
  | .blt b es, X, W, sc, q, O, cv, h => by
    unfold mE at h
    replace h := (Bool.and_eq_true_iff.mp h).2
    split at h
    · rename_i y py v vs pos
      simp only [Bool.and_eq_true, decide_eq_true_eq] at h
      obtain ⟨rfl, h1, h2⟩ := h
      obtain ⟨g1, g2, g3⟩ := glo_gl O h1
      obtain ⟨st1, st2⟩ := nonempty_plain h2 (env := X.env) (pos := pos)
      refine pe_mono (pe_blt (callr_blt (Z := Z) O.calm b) g1 (O.bn _ (blt_bn b)) (exs_pa es X W sc (v :: vs) O cv h2) st1 st2) fun σ H Q ⟨B, ρ, g, p, w⟩ => ?_
      unfold ev at w
      refine ⟨B, ρ, g, p, (Wr.bind w).mono fun ds g1 H1 f1 a1 w1 us n => ?_⟩
      have p1 := p.step f1 a1
      obtain ⟨d, e, kk⟩ := Wr.ofPr (pr_blt _ _) w1 a1
      refine ⟨B, ds, d, g1, n, p1.bok, e, fun v' H' sm n' fr => kk H' (sameFr sm) (at_same Z a1 sm) v' n' ⟨fun z _ => ?_, fun z => ?_⟩⟩
      · have zb : b.fresh = true := by
          cases b <;> first | rfl | exact absurd (show 1 ≤ 0 from z) (by decide)
        obtain ⟨pp, e1, e2⟩ := fr zb
        exact ⟨pp, e1, new_back f1 a1 e2⟩
      · cases b <;> first | exact absurd (show 2 ≤ 0 from z) (by decide) | exact absurd (show 2 ≤ 1 from z) (by decide)
    · exact absurd h Bool.false_ne_true
  | .met m a es, X, W, sc, q, O, cv, h => by
    unfold mE at h
    replace h := (Bool.and_eq_true_iff.mp h).2
    split at h
    · rename_i o nm ap v vs cp
      simp only [Bool.and_eq_true, decide_eq_true_eq] at h
      obtain ⟨rfl, h1, h2, h3, h4⟩ := h
      obtain ⟨st1, st2⟩ := nonempty_plain h2 (env := X.env) (pos := cp)
      have few : ((backTo cp (starEach (v :: vs) X.env)).all (fun x => !x.1) && (backToKw cp (keywordEach [] X.env)).all (fun x => x.1.isSome)
          && decide ((v :: vs).length + ([] : List Keyword).length + (if ([] : List Keyword).isEmpty then 0 else 1) < 30)) = true := by
        rw [star_all fun a ha => mEs_plain h2 a ha]
        have : decide ((v :: vs).length + ([] : List Keyword).length + (if ([] : List Keyword).isEmpty then 0 else 1) < 30) = true := by
          rw [decide_eq_true_eq, List.length_cons]
          show vs.length + 1 + 0 + 0 < 30
          omega
        rw [this]; rfl
      have pa := exs_pa es X W sc (v :: vs) O cv.r h2
      have po := ex_pe a X W sc o O cv.l h1
      have base := attr_base (n := m.name) (env := X.env) (mE_plain h1)
      have hu := O.u
      have fin : ∀ σ H Q, tM (cc X) Z W (Ex.met m a es).vs 0 (ev (.met m a es)) σ H Q → tBM X.K m.T (rVM X.K Z (metD m)) (tM (cc X) Z W a.vs a.fresh (ev a)) (tML (cc X) Z W es.vs (evs es)) σ H Q := fun σ H Q ⟨B, ρ, g, p, w⟩ => by
        unfold ev at w
        refine ⟨B, ρ, g, p.l, (Wr.bind w).mono fun d1 g1 H1 f1 a1 w1 v1 n1 _ => ?_⟩
        have p1 := p.step f1 a1
        obtain ⟨c1, w1⟩ := Wr.grd w1
        refine ⟨?_, B, ρ, g1, p1.r, (Wr.bind w1).mono fun ds g2 H2 f2 a2 w2 us n2 => ?_⟩
        · exact rec_ty c1 n1
        · have p2 := p1.step f2 a2
          obtain ⟨d, e, kk⟩ := fin_pr (pr_met _ _ _) w2 p2.at' rfl
          exact ⟨B, d1, ds, d, g2, p1.den f2 n1, n2, p2.bok, e, kk⟩
      cases m with
      | join => exact pe_mono (pe_bm PySem.F.plainAttrs_str PySem.F.slot_str_join PySem.F.type_str_join (mtr_met (Z := Z) hu .join) po pa base few h3 st1 st2) fin
      | find => exact pe_mono (pe_bm PySem.F.plainAttrs_str PySem.F.slot_str_find PySem.F.type_str_find (mtr_met (Z := Z) hu .find) po pa base few h3 st1 st2) fin
      | get => exact pe_mono (pe_bm PySem.F.plainAttrs_dict PySem.F.slot_dict_get PySem.F.type_dict_get (mtr_met (Z := Z) hu .get) po pa base few h3 st1 st2) fin
    · exact absurd h Bool.false_ne_true
  | .isi a [] true, X, W, sc, q, O, cv, h => by
    unfold mE at h; exact absurd h Bool.false_ne_true
  | .isi a (_ :: _ :: _) true, X, W, sc, q, O, cv, h => by
    unfold mE at h; exact absurd h Bool.false_ne_true
  | .isi a [t] true, X, W, sc, q, O, cv, h => by
    unfold mE at h
    replace h := (Bool.and_eq_true_iff.mp h).2
    split at h
    · rename_i y py v z pz pos
      simp only [Bool.and_eq_true, decide_eq_true_eq] at h
      obtain ⟨rfl, h1, h2, h3⟩ := h
      obtain ⟨g1, g2, g3⟩ := glo_gl O h1
      simp only [mTys, Bool.and_eq_true, decide_eq_true_eq] at h3
      obtain ⟨rfl, h4, _⟩ := h3
      have h5 : mTys sc [t] [.Name t.name pz] = true := by simp [mTys, h4]
      obtain ⟨i1, i2⟩ := pa_tys O [t] _ h5
      refine pe_mono (pe_callB call_isi g1 (O.bn _ (by decide)) PyProof.Rows.boot_isinstance (pa_cons (ex_pe a X W sc v O cv h2) i1 (star_cons (mE_plain h2))) (by decide) (by decide) (star_cons (mE_plain h2)) (star_any i2)) fun σ H Q ⟨B, ρ, g, p, w⟩ => ?_
      unfold ev at w
      refine ⟨B, ρ, g, p, (Wr.bind w).mono fun d g1 H1 f1 a1 w1 v1 n1 _ => ?_⟩
      obtain ⟨c1, w1⟩ := Wr.grd w1
      obtain ⟨n, t1, t2⟩ := isi_one n1 c1
      obtain ⟨_, w1⟩ := Wr.grd w1
      have w2 := Wr.pure w1 a1 _ (.bl _) fsh0
      refine ⟨v1, .ty t.ty, .type n, .type t.ty, _, rfl, .ty _, t1, kit_ty (t2 t), ?_⟩
      simpa using w2
    · exact absurd h Bool.false_ne_true
  | .isi a ts false, X, W, sc, q, O, cv, h => by
    rw [mE_isiF] at h
    replace h := (Bool.and_eq_true_iff.mp h).2
    unfold mIsiF at h
    split at h
    · rename_i y py v vs kk p1 p2
      simp only [Bool.and_eq_true, decide_eq_true_eq] at h
      obtain ⟨rfl, h1, h2, h3⟩ := h
      obtain ⟨g1, g2, g3⟩ := glo_gl O h1
      obtain ⟨i1, i2⟩ := pa_tys O ts vs h3
      refine pe_mono (pe_callB call_isiT g1 (O.bn _ (by decide)) PyProof.Rows.boot_isinstance (pa_cons (ex_pe a X W sc v O cv h2) (pa_cons (pe_tup i1) pa_nil (star_cons rfl)) (star_cons (mE_plain h2))) (by decide) (by decide) (star_cons (mE_plain h2)) (star_any (by simp [plainE]))) fun σ H Q ⟨B, ρ, g, p, w⟩ => ?_
      unfold ev at w
      refine ⟨B, ρ, g, p, (Wr.bind w).mono fun d g1 H1 f1 a1 w1 v1 n1 _ => ?_⟩
      obtain ⟨c1, w1⟩ := Wr.grd w1
      obtain ⟨cl, w1⟩ := Wr.grd w1
      refine ⟨by rw [List.length_map, ← line_eq]; exact of_decide_eq_true cl, fun pp np => ?_⟩
      have n2 := Den.fr (sameFr (same_upd (o := .tup (ts.map fun t => .ty t.ty)) np)) (p.step f1 a1).bok d v1 n1
      obtain ⟨n, t1, t2⟩ := kit_all n2 c1
      have w2 := Wr.pure (w1.from (sameFr (same_upd (o := .tup (ts.map fun t => .ty t.ty)) np))) (at_same Z a1 (same_upd np)) _ (.bl _) fsh0
      exact ⟨v1, pp, _, _, _, _, rfl, upd_same, cls_all ts, t1, t2 ts, w2⟩
    · exact absurd h Bool.false_ne_true
  | .comp tg it c e own, X, W, sc, q, O, cv, h => by
    unfold mE at h
    replace h := (Bool.and_eq_true_iff.mp h).2
    split at h
    · rename_i elt t i ifs z scope pos
      simp only [Bool.and_eq_true, decide_eq_true_eq] at h
      obtain ⟨rfl, hok, h1, h2, h3, h4, h5, h6⟩ := h
      have hw : ∀ i ∈ tg.ws, i ∈ own.map (·.2) := fun i hi => by
        have := List.all_eq_true.mp h4 i hi
        simpa using this
      refine pe_mono (pe_lc O.calm O.nd (it_pi it tg X W sc i t O cv.l h1 hok (tg_tup hok h3)) (by rw [O.sc]; exact blkOk_by h2)
        (fun s H C cl fp => show PG _ t (gT X.K tg) from pg_of (X := X.blk s H scope (compEnvC scope cl C X.env) fp) (sc := scope) O.nd O.calm (fun x e => lookup_relS_keep (sc := X.env.scope) (by decide) e) (fun x e => ⟨lookup_relS_keep (sc := X.env.scope) (by decide) e, by show (scope.names.lookup x == some .cell) = true; rw [e]; rfl⟩) tg t h3)
        (fun s H C cl fp => show PTs _ ifs (tMB (cc X) Z W0 c.vs (evC c)) from op_pts c _ W0 (relS scope sc) ifs (O.blk s H C cl fp) cv.r.l.blk h5)
        (fun s H C cl fp => show PE _ elt (tM (cc X) Z W0 e.vs e.fresh (ev e)) from ex_pe e _ W0 (relS scope sc) elt (O.blk s H C cl fp) cv.r.r.blk h6)
        (mI_fold h1)) fun σ H Q w => ?_
      exact lc_red (N := X.N) (sc' := scope) (tge := t) rfl h3 hw w
    · exact absurd h Bool.false_ne_true
  | .dic t, X, W, sc, q, O, cv, h => by
    unfold mE at h
    replace h := (Bool.and_eq_true_iff.mp h).2
    split at h
    · rename_i pos
      cases t with
      | false =>
        refine pe_mono pe_dnewK fun σ H Q ⟨B, ρ, g, p, w⟩ => ?_
        unfold ev at w
        intro pp np
        have w2 := (w.from (sameFr (same_upd (o := .dK []) np)))
        exact Wr.pure w2 (at_same Z p.at' (same_upd np)) _ (.dK upd_same (not_B p.bok np) rfl .nil) (fsh1 np)
      | true =>
        refine pe_mono pe_dnewT fun σ H Q ⟨B, ρ, g, p, w⟩ => ?_
        unfold ev at w
        intro pp np
        have w2 := (w.from (sameFr (same_upd (o := .dT []) np)))
        exact Wr.pure w2 (at_same Z p.at' (same_upd np)) _ (.dT upd_same (not_B p.bok np) rfl .nil) (fsh1 np)
    · exact absurd h Bool.false_ne_true
  | .ssc tg it c e own, X, W, sc, q, O, cv, h => by
    unfold mE at h
    replace h := (Bool.and_eq_true_iff.mp h).2
    split at h
    · rename_i y py elt t i ifs z scope ps pos
      simp only [Bool.and_eq_true, decide_eq_true_eq] at h
      obtain ⟨rfl, h0, rfl, hok, h1, h2, h3, h4, h5, h6⟩ := h
      obtain ⟨g1, g2, g3⟩ := glo_gl O h0
      have hw : ∀ i ∈ tg.ws, i ∈ own.map (·.2) := fun i hi => by
        have := List.all_eq_true.mp h4 i hi
        simpa using this
      refine pe_mono (pe_callB (call_sx (Z := Z) O.calm) g1 (O.bn _ (by decide)) PyProof.Rows.boot_sorted (pa_cons (pe_sx O.calm O.nd (it_pi it tg X W sc i t O cv.l h1 hok (tg_tup hok h3)) (by rw [O.sc]; exact blkOk_by h2)
        (fun s H C cl fp => show PG _ t (gT X.K tg) from pg_of (X := X.blk s H scope (compEnvC scope cl C X.env) fp) (sc := scope) O.nd O.calm (fun x e => lookup_relS_keep (sc := X.env.scope) (by decide) e) (fun x e => ⟨lookup_relS_keep (sc := X.env.scope) (by decide) e, by show (scope.names.lookup x == some .cell) = true; rw [e]; rfl⟩) tg t h3)
        (fun s H C cl fp => show PTs _ ifs (tMB (cc X) Z W0 c.vs (evC c)) from op_pts c _ W0 (relS scope sc) ifs (O.blk s H C cl fp) cv.r.l.blk h5)
        (fun s H C cl fp => show PE _ elt (tM (cc X) Z W0 e.vs e.fresh (ev e)) from ex_pe e _ W0 (relS scope sc) elt (O.blk s H C cl fp) cv.r.r.blk h6)
        (mI_fold h1)) pa_nil rfl) g3 g2 rfl rfl) fun σ H Q w => ?_
      exact sx_red (N := X.N) (sc' := scope) (tge := t) rfl h3 hw w
    · exact absurd h Bool.false_ne_true
  | .keyl i x, X, W, sc, q, O, cv, h => by
    unfold mE at h
    replace h := (Bool.and_eq_true_iff.mp h).2
    split at h
    · rename_i y py y2 p2 n pn z scope pos
      simp only [Bool.and_eq_true, decide_eq_true_eq] at h
      obtain ⟨rfl, h1, h2, h3, h4⟩ := h
      obtain ⟨n1, n2, n3, n4⟩ := name_vis h1
      obtain ⟨m1, m2, m3, m4⟩ := name_vis h4
      refine pe_mono (pe_lock (pe_lc O.calm O.nd (pi_keys (pe_var n1 (by rw [O.sc]; exact n2) n3 n4)) (by rw [O.sc]; exact blkOk_by h2)
        (fun s H C cl fp => show PG _ (.Name y2 p2) (gT X.K (.nm x)) from pg_of (X := X.blk s H scope (compEnvC scope cl C X.env) fp) (sc := scope) O.nd O.calm (fun x e => lookup_relS_keep (sc := X.env.scope) (by decide) e) (fun x e => ⟨lookup_relS_keep (sc := X.env.scope) (by decide) e, by show (scope.names.lookup x == some .cell) = true; rw [e]; rfl⟩) (.nm x) (.Name y2 p2) h3)
        (fun s H C cl fp => pts_nil)
        (fun s H C cl fp => pe_var (X := X.blk s H scope (compEnvC scope cl C X.env) fp) m1 (by show Vis (relS scope X.env.scope) y; rw [O.sc]; exact m2) m3 m4)
        (fun _ => rfl))) fun σ H Q w => keyl_red (N := X.N) (sc' := scope) (p2 := p2) (y2 := y2) (i := i) rfl h3 w
    · exact absurd h Bool.false_ne_true
  | .mxd a d, X, W, sc, q, O, cv, h => by
    unfold mE at h
    replace h := (Bool.and_eq_true_iff.mp h).2
    split at h
    · rename_i y py v kw k' p1 p2 p3 pos
      simp only [Bool.and_eq_true, decide_eq_true_eq] at h
      obtain ⟨rfl, rfl, rfl, h0, h1⟩ := h
      obtain ⟨g1, g2, g3⟩ := glo_gl O h0
      refine pe_mono (pe_callBK (call_mxd (Z := Z) O.calm O.u) g1 (O.bn _ (by decide)) PyProof.Rows.boot_max (pa_cons (ex_pe a X W sc v O cv h1) pa_nil (star_cons (mE_plain h1))) (pk_cons pe_int pk_nil) g3 g2 (by rw [star_cons (mE_plain h1)]; rfl) (star_any fun z hz => by
        obtain rfl := mem_one' hz
        exact mE_plain h1) rfl rfl rfl) fun σ H Q ⟨B, ρ, g, p, w⟩ => ⟨B, ρ, g, p, ?_⟩
      unfold ev at w
      refine (Wr.bind w).mono fun dd g1 H1 f1 a1 w1 v1 n1 fs => ?_
      clear fs
      cases n1 with
      | @lst aa vs xs e1 nb l1 =>
        cases en : intsOf xs with
        | none =>
          replace w1 : Wr Z H1 (okD (cc X) Z B H 0 Q) (erW (cc X) Z B W σ) ((match intsOf xs with
            | some (n :: ns) => pure (.int (maxI n ns))
            | some [] => pure (.int k')
            | none => M.stk : M D) g1) := w1
          rw [en] at w1; exact w1.elim
        | some ns =>
          replace w1 : Wr Z H1 (okD (cc X) Z B H 0 Q) (erW (cc X) Z B W σ) ((match intsOf xs with
            | some (n :: ns) => pure (.int (maxI n ns))
            | some [] => pure (.int k')
            | none => M.stk : M D) g1) := w1
          rw [en] at w1
          cases ints_of en
          rw [l1.ints] at e1
          refine ⟨aa, ns, k', rfl, rfl, SqL.of e1, ?_⟩
          cases ns with
          | nil => exact Wr.pure w1 a1 _ (.int _) fsh0
          | cons n ns => exact Wr.pure w1 a1 _ (.int _) fsh0
      | _ => exact w1.elim
    · exact absurd h Bool.false_ne_true
theorem ex_pt : ∀ (e : Ex) (X : Cx) (W : WX) (sc : Scope) (a : Expr), XOk X Z W k sc → Cov X Z k e.calls e.globs → mE X.N sc e a = true → PT X a (tMB (cc X) Z W e.vs (fun ρ => ev e ρ >>= asB))
  | .cmp o a b, X, W, sc, q, O, cv, h => by
    unfold mE at h
    replace h := (Bool.and_eq_true_iff.mp h).2
    split at h
    · rename_i l o' r pos
      simp only [Bool.and_eq_true, decide_eq_true_eq] at h
      obtain ⟨rfl, h1, h2⟩ := h
      refine pt_mono (pt_cmpR (opr_cmp (Z := Z) O.u o) (ex_pe a X W sc l O cv.l h1) (ex_pe b X W sc r O cv.r h2) (no_behind (mE_plain h2))) fun σ H Q ⟨B, ρ, g, p, w⟩ => ?_
      replace w := Wr.bind w
      unfold ev at w
      refine seq2 (vs := []) p w fun d1 d2 g2 v1 v2 H2 p2 f n1 n2 w2 => ?_
      obtain ⟨b, e, kk⟩ := Wr.ofPr (pr_cmp _ _ _) (Wr.bind w2) p2.at'
      exact ⟨B, d1, d2, b, g2, n1, n2, e, b, rfl, Wr.pure (Wr.pure (kk H2 .refl p2.at') p2.at') p2.at'⟩
    · exact absurd h Bool.false_ne_true
  | .cmp2 o o2 a b c, X, W, sc, q, O, cv, h => by
    unfold mE at h
    replace h := (Bool.and_eq_true_iff.mp h).2
    split at h
    · rename_i l o' p' m r pos
      simp only [Bool.and_eq_true, decide_eq_true_eq] at h
      obtain ⟨rfl, rfl, h1, h2, h3⟩ := h
      refine pt_mono (pt_chain (opr_cmp (Z := Z) O.u o) (opr_cmp (Z := Z) O.u o2) (ex_pe a X W sc l O cv.l h1) (ex_pe b X W sc m O cv.r.l h2) (ex_pe c X W sc r O cv.r.r h3) (no_behind (mE_plain h3))) fun σ H Q ⟨B, ρ, g, p, w⟩ => ?_
      replace w := Wr.bind w
      unfold ev at w
      refine ⟨B, ρ, g, p.l, (Wr.bind w).mono fun d1 g1 H1 f1 a1 w1 v1 n1 _ => ?_⟩
      have p1 := p.step f1 a1
      refine ⟨B, ρ, g1, p1.r.l, (Wr.bind w1).mono fun d2 g2 H2 f2 a2 w2 v2 n2 _ => ?_⟩
      have p2 := p1.step f2 a2
      obtain ⟨kb, e, w3⟩ := Wr.ofPr (pr_cmp _ _ _) (Wr.bind w2) p2.at'
      have w3 := w3 H2 .refl p2.at'
      refine ⟨B, d1, d2, kb, g2, p1.den f2 n1, n2, e, kb, rfl, ?_⟩
      cases kb with
      | false =>
        rw [if_neg Bool.false_ne_true] at w3 ⊢
        exact ⟨false, rfl, Wr.pure (Wr.pure w3 p2.at') p2.at'⟩
      | true =>
        rw [if_pos rfl] at w3 ⊢
        refine ⟨B, ρ, g2, p2.r.r, (Wr.bind w3).mono fun d3 g3 H3 f3 a3 w4 v3 n3 _ => ?_⟩
        have p3 := p2.step f3 a3
        obtain ⟨b, e, kk⟩ := Wr.ofPr (pr_cmp _ _ _) (Wr.bind w4) p3.at'
        exact ⟨B, d2, d3, b, g3, p2.den f3 n2, n3, e, b, rfl, Wr.pure (Wr.pure (kk H3 .refl p3.at') p3.at') p3.at'⟩
    · exact absurd h Bool.false_ne_true
  | .nt a, X, W, sc, q, O, cv, h => by
    unfold mE at h
    replace h := (Bool.and_eq_true_iff.mp h).2
    split at h
    · rename_i x pos
      refine pt_mono (pt_not (ex_pt a X W sc x O cv h)) fun σ H Q ⟨B, ρ, g, p, w⟩ => ?_
      have e0 : (ev (.nt a) ρ >>= asB) = ((ev a ρ >>= asB) >>= fun b => pure (!b)) := by
        rw [ev]; simp only [bind_assoc]; rfl
      replace w : Wr Z H (okB Q) (erW (cc X) Z B W σ) ((ev (.nt a) ρ >>= asB) g) := w
      rw [e0] at w
      exact ⟨B, ρ, g, p, (Wr.bind w).mono fun b g1 H1 f1 a1 w1 => Wr.pure (er := erW (cc X) Z B W σ) w1 a1⟩
    · exact absurd h Bool.false_ne_true
  | .and es, X, W, sc, q, O, cv, h => by
    unfold mE at h
    replace h := (Bool.and_eq_true_iff.mp h).2
    split at h
    · rename_i vs pos
      exact pt_mono (exs_andT es X W sc vs pos O cv h).pt fun σ H Q ⟨B, ρ, g, p, w⟩ => ⟨B, ρ, g, p, by unfold ev at w; exact w⟩
    · exact absurd h Bool.false_ne_true
  | .or es, X, W, sc, q, O, cv, h => by
    unfold mE at h
    replace h := (Bool.and_eq_true_iff.mp h).2
    split at h
    · rename_i vs pos
      exact pt_mono (exs_orT es X W sc vs pos O cv h).pt fun σ H Q ⟨B, ρ, g, p, w⟩ => ⟨B, ρ, g, p, by unfold ev at w; exact w⟩
    · exact absurd h Bool.false_ne_true
  | .ite c a b, X, W, sc, q, O, cv, h => by
    unfold mE at h
    replace h := (Bool.and_eq_true_iff.mp h).2
    split at h
    · rename_i c' a' b' pos
      simp only [Bool.and_eq_true] at h
      obtain ⟨h1, h2, h3⟩ := h
      refine pt_mono (pt_ite (ex_pt c X W sc c' O cv.l h1) (ex_pt a X W sc a' O cv.r.l h2) (ex_pt b X W sc b' O cv.r.r h3)) fun σ H Q ⟨B, ρ, g, p, w⟩ => ?_
      have e0 : (ev (.ite c a b) ρ >>= asB) = ((ev c ρ >>= asB) >>= fun kb => (if kb = true then ev a ρ >>= asB else ev b ρ >>= asB)) := by
        rw [ev]; simp only [bind_assoc, ite_bind]
      replace w : Wr Z H (okB Q) (erW (cc X) Z B W σ) ((ev (.ite c a b) ρ >>= asB) g) := w
      rw [e0] at w
      refine ⟨B, ρ, g, p.l, (Wr.bind w).mono fun kb g1 H1 f1 a1 w1 => ?_⟩
      have p1 := p.step f1 a1
      show if kb = true then _ else _
      cases kb with
      | true =>
        rw [if_pos rfl] at w1 ⊢
        exact ⟨B, ρ, g1, p1.r.l, w1⟩
      | false =>
        rw [if_neg Bool.false_ne_true] at w1 ⊢
        exact ⟨B, ρ, g1, p1.r.r, w1⟩
    · exact absurd h Bool.false_ne_true
  | .var i, X, W, sc, q, O, cv, h => pt_dfl (ex_pe _ X W sc q O cv h) (mE_dfl h rfl)
  | .con c, X, W, sc, q, O, cv, h => pt_dfl (ex_pe _ X W sc q O cv h) (mE_dfl h rfl)
  | .glo x d, X, W, sc, q, O, cv, h => pt_dfl (ex_pe _ X W sc q O cv h) (mE_dfl h rfl)
  | .bin o a b, X, W, sc, q, O, cv, h => pt_dfl (ex_pe _ X W sc q O cv h) (mE_dfl h rfl)
  | .neg a, X, W, sc, q, O, cv, h => pt_dfl (ex_pe _ X W sc q O cv h) (mE_dfl h rfl)
  | .tup es, X, W, sc, q, O, cv, h => pt_dfl (ex_pe _ X W sc q O cv h) (mE_dfl h rfl)
  | .lst es, X, W, sc, q, O, cv, h => pt_dfl (ex_pe _ X W sc q O cv h) (mE_dfl h rfl)
  | .sub a i, X, W, sc, q, O, cv, h => pt_dfl (ex_pe _ X W sc q O cv h) (mE_dfl h rfl)
  | .slc a lo hi, X, W, sc, q, O, cv, h => pt_dfl (ex_pe _ X W sc q O cv h) (mE_dfl h rfl)
  | .rvs a, X, W, sc, q, O, cv, h => pt_dfl (ex_pe _ X W sc q O cv h) (mE_dfl h rfl)
  | .call x f es, X, W, sc, q, O, cv, h => pt_dfl (ex_pe _ X W sc q O cv h) (mE_dfl h rfl)
  | .blt b es, X, W, sc, q, O, cv, h => pt_dfl (ex_pe _ X W sc q O cv h) (mE_dfl h rfl)
  | .met m a es, X, W, sc, q, O, cv, h => pt_dfl (ex_pe _ X W sc q O cv h) (mE_dfl h rfl)
  | .isi a ts one, X, W, sc, q, O, cv, h => pt_dfl (ex_pe _ X W sc q O cv h) (mE_dfl h rfl)
  | .comp tg it c e own, X, W, sc, q, O, cv, h => pt_dfl (ex_pe _ X W sc q O cv h) (mE_dfl h rfl)
  | .dic t, X, W, sc, q, O, cv, h => pt_dfl (ex_pe _ X W sc q O cv h) (mE_dfl h rfl)
  | .ssc tg it c e own, X, W, sc, q, O, cv, h => pt_dfl (ex_pe _ X W sc q O cv h) (mE_dfl h rfl)
  | .keyl i x, X, W, sc, q, O, cv, h => pt_dfl (ex_pe _ X W sc q O cv h) (mE_dfl h rfl)
  | .mxd a d, X, W, sc, q, O, cv, h => pt_dfl (ex_pe _ X W sc q O cv h) (mE_dfl h rfl)
theorem exs_pa : ∀ (es : Exs) (X : Cx) (W : WX) (sc : Scope) (as : List Expr), XOk X Z W k sc → Cov X Z k es.calls es.globs → mEs X.N sc es as = true → PA X as (tML (cc X) Z W es.vs (evs es))
  | .nil, X, W, sc, [], O, cv, h => by
    refine pa_mono pa_nil fun σ H Q ⟨B, ρ, g, p, w⟩ => ?_
    unfold evs at w
    exact Wr.pure w p.at' _ .nil
  | .nil, X, W, sc, _ :: _, O, cv, h => by simp [mEs] at h
  | .cons e es, X, W, sc, [], O, cv, h => by simp [mEs] at h
  | .cons e es, X, W, sc, a :: as, O, cv, h => by
    simp only [mEs, Bool.and_eq_true] at h
    refine pa_mono (pa_cons (ex_pe e X W sc a O cv.l h.1) (exs_pa es X W sc as O cv.r h.2) (star_cons (mE_plain h.1))) fun σ H Q ⟨B, ρ, g, p, w⟩ => ?_
    unfold evs at w
    refine ⟨B, ρ, g, p.l, (Wr.bind w).mono fun d1 g1 H1 f1 a1 w1 v1 n1 _ => ?_⟩
    have p1 := p.step f1 a1
    refine ⟨B, ρ, g1, p1.r, (Wr.bind w1).mono fun ds g2 H2 f2 a2 w2 us n2 => ?_⟩
    exact Wr.pure w2 a2 _ (.cons (p1.den f2 n1) n2)
theorem exs_and : ∀ (es : Exs) (X : Cx) (W : WX) (sc : Scope) (as : List Expr) (pos : Pos), XOk X Z W k sc → Cov X Z k es.calls es.globs → mEs X.N sc es as = true → PE X (.BoolOp .And as pos) (tM (cc X) Z W es.vs 0 (evAnd es))
  | .nil, X, W, sc, as, pos, O, cv, h => ⟨fun _ _ _ _ _ _ ⟨B, ρ, g, p, w⟩ => by unfold evAnd at w; exact w.elim⟩
  | .cons e es, X, W, sc, [], pos, O, cv, h => by simp [mEs] at h
  | .cons e .nil, X, W, sc, [a], pos, O, cv, h => by
    simp only [mEs, Bool.and_eq_true] at h
    refine pe_mono (pe_one (ex_pe e X W sc a O cv.l h.1)) fun σ H Q ⟨B, ρ, g, p, w⟩ => ⟨B, ρ, g, p.l, ?_⟩
    unfold evAnd at w
    exact (Wr.bind w).mono fun d g1 H1 f1 a1 w1 v n _ => Wr.pure w1 a1 v n fsh0
  | .cons e .nil, X, W, sc, a :: b :: as, pos, O, cv, h => by simp [mEs] at h
  | .cons e (.cons e2 es), X, W, sc, [a], pos, O, cv, h => by simp [mEs] at h
  | .cons e (.cons e2 es), X, W, sc, a :: b :: as, pos, O, cv, h => by
    rw [mEs, Bool.and_eq_true] at h
    refine pe_mono (pe_and (ex_pe e X W sc a O cv.l h.1) (exs_and (.cons e2 es) X W sc (b :: as) pos O cv.r h.2)) fun σ H Q ⟨B, ρ, g, p, w⟩ => ⟨B, ρ, g, p.l, ?_⟩
    rw [evAnd] at w
    refine (Wr.bind w).mono fun d g1 H1 f1 a1 w1 v n _ => ?_
    have p1 := p.step f1 a1
    obtain ⟨kb, e, kk⟩ := Wr.ofPr (pr_asB _) (Wr.bind w1) a1
    cases asB_ok e
    cases n
    have w2 := kk H1 .refl a1
    refine ⟨kb, rfl, ?_⟩
    cases kb with
    | true =>
      rw [if_pos rfl] at w2 ⊢
      exact ⟨B, ρ, g1, p1.r, w2.mono fun d g2 H2 _ _ w3 v n _ => w3 v n fsh0⟩
    | false =>
      rw [if_neg Bool.false_ne_true] at w2 ⊢
      exact Wr.pure w2 a1 _ (.bl false) fsh0
theorem exs_or : ∀ (es : Exs) (X : Cx) (W : WX) (sc : Scope) (as : List Expr) (pos : Pos), XOk X Z W k sc → Cov X Z k es.calls es.globs → mEs X.N sc es as = true → PE X (.BoolOp .Or as pos) (tM (cc X) Z W es.vs 0 (evOr es))
  | .nil, X, W, sc, as, pos, O, cv, h => ⟨fun _ _ _ _ _ _ ⟨B, ρ, g, p, w⟩ => by unfold evOr at w; exact w.elim⟩
  | .cons e es, X, W, sc, [], pos, O, cv, h => by simp [mEs] at h
  | .cons e .nil, X, W, sc, [a], pos, O, cv, h => by
    simp only [mEs, Bool.and_eq_true] at h
    refine pe_mono (pe_one (ex_pe e X W sc a O cv.l h.1)) fun σ H Q ⟨B, ρ, g, p, w⟩ => ⟨B, ρ, g, p.l, ?_⟩
    unfold evOr at w
    exact (Wr.bind w).mono fun d g1 H1 f1 a1 w1 v n _ => Wr.pure w1 a1 v n fsh0
  | .cons e .nil, X, W, sc, a :: b :: as, pos, O, cv, h => by simp [mEs] at h
  | .cons e (.cons e2 es), X, W, sc, [a], pos, O, cv, h => by simp [mEs] at h
  | .cons e (.cons e2 es), X, W, sc, a :: b :: as, pos, O, cv, h => by
    rw [mEs, Bool.and_eq_true] at h
    refine pe_mono (pe_or (ex_pe e X W sc a O cv.l h.1) (exs_or (.cons e2 es) X W sc (b :: as) pos O cv.r h.2)) fun σ H Q ⟨B, ρ, g, p, w⟩ => ⟨B, ρ, g, p.l, ?_⟩
    rw [evOr] at w
    refine (Wr.bind w).mono fun d g1 H1 f1 a1 w1 v n _ => ?_
    have p1 := p.step f1 a1
    obtain ⟨kb, e, kk⟩ := Wr.ofPr (pr_asB _) (Wr.bind w1) a1
    cases asB_ok e
    cases n
    have w2 := kk H1 .refl a1
    refine ⟨kb, rfl, ?_⟩
    cases kb with
    | true =>
      rw [if_pos rfl] at w2 ⊢
      exact Wr.pure w2 a1 _ (.bl true) fsh0
    | false =>
      rw [if_neg Bool.false_ne_true] at w2 ⊢
      exact ⟨B, ρ, g1, p1.r, w2.mono fun d g2 H2 _ _ w3 v n _ => w3 v n fsh0⟩
theorem exs_andT : ∀ (es : Exs) (X : Cx) (W : WX) (sc : Scope) (as : List Expr) (pos : Pos), XOk X Z W k sc → Cov X Z k es.calls es.globs → mEs X.N sc es as = true → PW X (.BoolOp .And as pos) (tMB (cc X) Z W es.vs (fun ρ => evAnd es ρ >>= asB))
  | .nil, X, W, sc, as, pos, O, cv, h => ⟨fun _ _ _ _ _ _ _ ⟨B, ρ, g, p, w⟩ => by
      replace w := Wr.bind w
      unfold evAnd at w; exact w.elim⟩
  | .cons e es, X, W, sc, [], pos, O, cv, h => by simp [mEs] at h
  | .cons e .nil, X, W, sc, [a], pos, O, cv, h => by
    simp only [mEs, Bool.and_eq_true] at h
    refine pw_mono (pw_and1 (ex_pt e X W sc a O cv.l h.1)) fun σ H Q ⟨B, ρ, g, p, w⟩ => ⟨B, ρ, g, p.l, ?_⟩
    replace w : Wr Z H (okB Q) (erW (cc X) Z B W σ) ((evAnd (.cons e .nil) ρ >>= asB) g) := w
    rw [show evAnd (.cons e .nil) ρ = ev e ρ from by rw [evAnd]; exact bind_pure _] at w
    exact w
  | .cons e .nil, X, W, sc, a :: b :: as, pos, O, cv, h => by simp [mEs] at h
  | .cons e (.cons e2 es), X, W, sc, [a], pos, O, cv, h => by simp [mEs] at h
  | .cons e (.cons e2 es), X, W, sc, a :: b :: as, pos, O, cv, h => by
    rw [mEs, Bool.and_eq_true] at h
    refine pw_mono (pw_and (ex_pt e X W sc a O cv.l h.1) (exs_andT (.cons e2 es) X W sc (b :: as) pos O cv.r h.2)) fun σ H Q ⟨B, ρ, g, p, w⟩ => ⟨B, ρ, g, p.l, ?_⟩
    have e0 : (evAnd (.cons e (.cons e2 es)) ρ >>= asB) = ((ev e ρ >>= asB) >>= fun kb => (if kb = true then evAnd (.cons e2 es) ρ >>= asB else pure false)) := by
      rw [evAnd]; simp only [bind_assoc, ite_bind]; rfl
    replace w : Wr Z H (okB Q) (erW (cc X) Z B W σ) ((evAnd (.cons e (.cons e2 es)) ρ >>= asB) g) := w
    rw [e0] at w
    refine (Wr.bind w).mono fun kb g1 H1 f1 a1 w1 => ?_
    have p1 := p.step f1 a1
    show if kb = true then _ else _
    cases kb with
    | true =>
      rw [if_pos rfl] at w1 ⊢
      exact ⟨B, ρ, g1, p1.r, w1⟩
    | false =>
      rw [if_neg Bool.false_ne_true] at w1 ⊢
      exact Wr.pure w1 a1
theorem exs_orT : ∀ (es : Exs) (X : Cx) (W : WX) (sc : Scope) (as : List Expr) (pos : Pos), XOk X Z W k sc → Cov X Z k es.calls es.globs → mEs X.N sc es as = true → PW X (.BoolOp .Or as pos) (tMB (cc X) Z W es.vs (fun ρ => evOr es ρ >>= asB))
  | .nil, X, W, sc, as, pos, O, cv, h => ⟨fun _ _ _ _ _ _ _ ⟨B, ρ, g, p, w⟩ => by
      replace w := Wr.bind w
      unfold evOr at w; exact w.elim⟩
  | .cons e es, X, W, sc, [], pos, O, cv, h => by simp [mEs] at h
  | .cons e .nil, X, W, sc, [a], pos, O, cv, h => by
    simp only [mEs, Bool.and_eq_true] at h
    refine pw_mono (pw_or1 (ex_pt e X W sc a O cv.l h.1)) fun σ H Q ⟨B, ρ, g, p, w⟩ => ⟨B, ρ, g, p.l, ?_⟩
    replace w : Wr Z H (okB Q) (erW (cc X) Z B W σ) ((evOr (.cons e .nil) ρ >>= asB) g) := w
    rw [show evOr (.cons e .nil) ρ = ev e ρ from by rw [evOr]; exact bind_pure _] at w
    exact w
  | .cons e .nil, X, W, sc, a :: b :: as, pos, O, cv, h => by simp [mEs] at h
  | .cons e (.cons e2 es), X, W, sc, [a], pos, O, cv, h => by simp [mEs] at h
  | .cons e (.cons e2 es), X, W, sc, a :: b :: as, pos, O, cv, h => by
    rw [mEs, Bool.and_eq_true] at h
    refine pw_mono (pw_or (ex_pt e X W sc a O cv.l h.1) (exs_orT (.cons e2 es) X W sc (b :: as) pos O cv.r h.2)) fun σ H Q ⟨B, ρ, g, p, w⟩ => ⟨B, ρ, g, p.l, ?_⟩
    have e0 : (evOr (.cons e (.cons e2 es)) ρ >>= asB) = ((ev e ρ >>= asB) >>= fun kb => (if kb = true then pure true else evOr (.cons e2 es) ρ >>= asB)) := by
      rw [evOr]; simp only [bind_assoc, ite_bind]; rfl
    replace w : Wr Z H (okB Q) (erW (cc X) Z B W σ) ((evOr (.cons e (.cons e2 es)) ρ >>= asB) g) := w
    rw [e0] at w
    refine (Wr.bind w).mono fun kb g1 H1 f1 a1 w1 => ?_
    have p1 := p.step f1 a1
    show if kb = true then _ else _
    cases kb with
    | true =>
      rw [if_pos rfl] at w1 ⊢
      exact Wr.pure w1 a1
    | false =>
      rw [if_neg Bool.false_ne_true] at w1 ⊢
      exact ⟨B, ρ, g1, p1.r, w1⟩
theorem op_po : ∀ (o : Op) (X : Cx) (W : WX) (sc : Scope) (a : Option Expr), XOk X Z W k sc → Cov X Z k o.calls o.globs → mO X.N sc o a = true → PO X a (tMO (cc X) Z W o.vs (evOp o))
  | .no, X, W, sc, none, O, cv, h => po_mono po_none fun σ H Q ⟨B, ρ, g, p, w⟩ => by
      unfold evOp at w; exact Wr.pure w p.at'
  | .no, X, W, sc, some _, O, cv, h => by simp [mO] at h
  | .so e, X, W, sc, none, O, cv, h => by simp [mO] at h
  | .so e, X, W, sc, some a, O, cv, h => by
    rw [mO] at h
    refine po_mono (po_some (ex_pe e X W sc a O cv h)) fun σ H Q ⟨B, ρ, g, p, w⟩ => ⟨B, ρ, g, p, ?_⟩
    unfold evOp at w
    refine (Wr.bind w).mono fun d g1 H1 f1 a1 w1 v n _ => ?_
    obtain ⟨i, e, kk⟩ := Wr.ofPr (pr_asI _) (Wr.bind w1) a1
    cases asI_ok e
    cases n
    exact ⟨i, rfl, Wr.pure (kk H1 .refl a1) a1⟩
theorem op_pts : ∀ (o : Op) (X : Cx) (W : WX) (sc : Scope) (a : List Expr), XOk X Z W k sc → Cov X Z k o.calls o.globs → mC X.N sc o a = true → PTs X a (tMB (cc X) Z W o.vs (evC o))
  | .no, X, W, sc, [], O, cv, h => pts_mono pts_nil fun σ H Q ⟨B, ρ, g, p, w⟩ => by
      unfold evC at w; exact Wr.pure w p.at'
  | .no, X, W, sc, _ :: _, O, cv, h => by simp [mC] at h
  | .so e, X, W, sc, [], O, cv, h => by simp [mC] at h
  | .so e, X, W, sc, _ :: _ :: _, O, cv, h => by simp [mC] at h
  | .so e, X, W, sc, [a], O, cv, h => by
    rw [mC] at h
    refine pts_mono (pts_one (ex_pt e X W sc a O cv h)) fun σ H Q ⟨B, ρ, g, p, w⟩ => ⟨B, ρ, g, p, ?_⟩
    unfold evC at w
    exact w
theorem it_pi : ∀ (it : It) (tg : Tg) (X : Cx) (W : WX) (sc : Scope) (a t : Expr), XOk X Z W k sc → Cov X Z k it.calls it.globs → mI X.N sc it a = true → okTg it tg = true → (okTg it (.nm 0) = false → ∃ es kk pos, t = .Tuple es kk pos) → PI X t a (tI (cc X) Z W it.isR it.vs (evIt it))
  | .of e, tg, X, W, sc, a, t, O, cv, h, _, _ => by
    unfold mI at h
    refine pi_mono (pi_any (ex_pe e X W sc a O cv h)) fun σ H R ⟨B, ρ, g, p, w⟩ => ⟨B, ρ, g, p, ?_⟩
    unfold evIt at w
    refine (Wr.bind w).mono fun d g1 H1 f1 a1 w1 v n _ => ?_
    have p1 := p.step f1 a1
    obtain ⟨ds, e, kk⟩ := Wr.ofPr (pr_items _) w1 a1
    have q := kk H1 .refl a1
    cases n with
    | lst h1 h2 h3 =>
      obtain ⟨rfl, _⟩ := pure_ok e
      exact .inl ⟨_, rfl, ⟨_, SqL.of h1⟩, q _ fun B' hB C hC' => have hC := (walk_sub hB hC'); wd_list (bm_new p1.bok hC) h1 (not_new hC h1 h2) (denL_new hC h3)⟩
    | tup h1 h3 =>
      obtain ⟨rfl, _⟩ := pure_ok e
      exact .inr (.inl ⟨_, rfl, ⟨_, SqT.of h1⟩, q _ fun B' hB C hC' => have hC := (walk_sub hB hC'); wd_tup (bm_new p1.bok hC) h1 (denL_new hC h3)⟩)
    | str s =>
      obtain ⟨rfl, _⟩ := pure_ok e
      exact .inr (.inr ⟨_, rfl, q _ fun B' hB C hC' => have hC := (walk_sub hB hC'); wd_str s⟩)
    | _ => exact (stk_ok (g := G0) e).elim
  | .rng es, tg, X, W, sc, a, t, O, cv, h, _, _ => by
    rcases mI_rng h with ⟨py, v, vs, pos, rfl, h1, hl, h2⟩
    obtain ⟨g1, g2, g3⟩ := glo_gl O h1
    have pa := exs_pa es X W sc (v :: vs) O cv h2
    have pl := fun a ha => mEs_plain h2 a ha
    have smb : ∀ {i : Int}, smallB i = true → -(2 ^ 62) ≤ i ∧ i < 2 ^ 62 := fun h => of_decide_eq_true h
    rcases vs with _ | ⟨v2, _ | ⟨v3, _ | ⟨v4, vs⟩⟩⟩
    · refine pi_mono (pi_range1 g1 (O.bn _ (by decide)) pa (star_cons (pl v (by simp)))) fun σ H R ⟨B, ρ, g, p, w⟩ => ⟨B, ρ, g, p, ?_⟩
      unfold evIt at w
      obtain ⟨e1, rfl⟩ := mEs_1 h2
      refine (wr_evs1 w).mono fun ds g1 H1 f1 a1 ⟨w1, d, hd⟩ us n => ?_
      subst hd
      obtain ⟨rs, e, kk⟩ := Wr.ofPr (pr_rng _) w1 a1
      have q := kk H1 .refl a1
      obtain ⟨u, rfl, nn⟩ := den1 n
      obtain ⟨j, rfl, c, rfl⟩ := rng_ok1 e
      obtain rfl := den_int nn
      exact ⟨_, rfl, (smb c).1, (smb c).2, q _ fun B' hB C hC => wd_rng 0 _⟩
    · refine pi_mono (pi_range2 g1 (O.bn _ (by decide)) pa (star_cons2 (pl v (by simp)) (pl v2 (by simp))) (star_cons (pl v2 (by simp)))) fun σ H R ⟨B, ρ, g, p, w⟩ => ⟨B, ρ, g, p, ?_⟩
      unfold evIt at w
      obtain ⟨e1, e2, rfl⟩ := mEs_2 h2
      refine (wr_evs2 w).mono fun ds g1 H1 f1 a1 ⟨w1, d, d2, hd⟩ us n => ?_
      subst hd
      obtain ⟨rs, e, kk⟩ := Wr.ofPr (pr_rng _) w1 a1
      have q := kk H1 .refl a1
      obtain ⟨u, u2, rfl, nn, n2⟩ := den2 n
      obtain ⟨j1, j2, rfl, rfl, c, rfl⟩ := rng_ok2 e
      obtain rfl := den_int nn
      obtain rfl := den_int n2
      exact ⟨_, _, rfl, ⟨(smb c.1).1, (smb c.1).2, (smb c.2).1, (smb c.2).2⟩, q _ fun B' hB C hC => wd_rng _ _⟩
    · refine pi_mono (pi_range3 g1 (O.bn _ (by decide)) pa (star_cons (pl v (by simp))) (star_any fun a ha => pl a (List.mem_cons_of_mem _ ha))) fun σ H R ⟨B, ρ, g, p, w⟩ => ⟨B, ρ, g, p, ?_⟩
      unfold evIt at w
      obtain ⟨e1, e2, e3, rfl⟩ := mEs_3 h2
      refine (wr_evs3 w).mono fun ds g1 H1 f1 a1 ⟨w1, d, d2, d3, hd⟩ us n => ?_
      subst hd
      obtain ⟨rs, e, kk⟩ := Wr.ofPr (pr_rng _) w1 a1
      have q := kk H1 .refl a1
      cases n with | cons nn n' =>
      obtain ⟨u, u2, rfl, n2, n3⟩ := den2 n'
      obtain ⟨j1, j2, rfl, rfl, rfl, c1, c2, rfl⟩ := rng_ok3 e
      obtain rfl := den_int nn
      obtain rfl := den_int n2
      obtain rfl := den_int n3
      exact ⟨_, _, _, _, rfl, RgC.neg (smb c1).1 (smb c1).2 (smb c2).1 (smb c2).2, q _ fun B' hB C hC => wd_rngC _ _ _⟩
    · exact absurd (show vs.length + 3 < 3 from hl) (by omega)
  | .enu e, tg, X, W, sc, a, t, O, cv, h, hk, ht => by
    obtain ⟨elts, kk, tpos, rfl⟩ := ht rfl
    rcases mI_enu h with ⟨py, v, pos, rfl, h1, h2⟩
    obtain ⟨g1, g2, g3⟩ := glo_gl O h1
    refine pi_mono (pi_enumA g1 (O.bn _ (by decide)) (ex_pe e X W sc v O cv h2) (star_cons (mE_plain h2))) fun σ H R ⟨B, ρ, g, p, w⟩ => ⟨B, ρ, g, p, ?_⟩
    unfold evIt at w
    refine (Wr.bind w).mono fun d g1 H1 f1 a1 w1 v n _ => ?_
    have p1 := p.step f1 a1
    obtain ⟨ds, e, kk⟩ := Wr.ofPr (pr_items _) (Wr.bind w1) a1
    have q := Wr.pure (kk H1 .refl a1) a1
    cases n with
    | lst h1 h2 h3 =>
      obtain ⟨rfl, _⟩ := pure_ok e
      exact .inl ⟨_, _, rfl, SqL.of h1, q _ fun B' hB C hC' => have hC := (walk_sub hB hC'); wd_enumL (bm_new p1.bok hC) h1 (not_new hC h1 h2) (denL_new hC h3)⟩
    | tup h1 h3 =>
      obtain ⟨rfl, _⟩ := pure_ok e
      exact .inr (.inl ⟨_, _, rfl, SqT.of h1, q _ fun B' hB C hC' => have hC := (walk_sub hB hC'); wd_enumT (bm_new p1.bok hC) h1 (denL_new hC h3)⟩)
    | str s =>
      obtain ⟨rfl, _⟩ := pure_ok e
      exact .inr (.inr ⟨_, rfl, q _ fun B' hB C hC' => have hC := (walk_sub hB hC'); wd_enumS s⟩)
    | _ => exact (stk_ok (g := G0) e).elim
  | .zip a b, tg, X, W, sc, q, t, O, cv, h, hk, ht => by
    obtain ⟨elts, kk, tpos, rfl⟩ := ht rfl
    rcases mI_zip h with ⟨py, v, u, pos, rfl, h1, h2, h3⟩
    obtain ⟨g1, g2, g3⟩ := glo_gl O h1
    refine pi_mono (RZ.pi_zipA g1 (O.bn _ (by decide)) (pa_cons (ex_pe a X W sc v O cv.l h2) (pa_cons (ex_pe b X W sc u O cv.r h3) pa_nil (star_cons (mE_plain h3))) (star_cons (mE_plain h2))) (star_cons (mE_plain h2)) (star_any (by simpa using mE_plain h3))) fun σ H R ⟨B, ρ, g, p, w⟩ => ⟨B, ρ, g, p.l, ?_⟩
    unfold evIt at w
    refine (Wr.bind w).mono fun d g1 H1 f1 a1 w1 v n _ => ?_
    have p1 := p.step f1 a1
    refine ⟨B, ρ, g1, p1.r, (Wr.bind w1).mono fun d2 g2 H2 f2 a2 w2 v2 n2 _ => ?_⟩
    have p2 := p1.step f2 a2
    have n1 := p1.den f2 n
    obtain ⟨ds, e, kk⟩ := Wr.ofPr (pr_zip _ _) w2 a2
    have q := kk H2 .refl a2
    cases n1 with
    | lst h1 h2 h3 =>
      cases n2 with
      | lst k1 k2 k3 =>
        obtain ⟨rfl, _⟩ := pure_ok e
        exact ⟨_, _, _, _, rfl, .inl ⟨SqL.of h1, SqL.of k1, q _ fun B' hB C hC' => have hC := (walk_sub hB hC'); wd_zipL (bm_new p2.bok hC) h1 (not_new hC h1 h2) (denL_new hC h3) k1 (not_new hC k1 k2) (denL_new hC k3)⟩⟩
      | _ => exact (stk_ok (g := G0) e).elim
    | tup h1 h3 =>
      cases n2 with
      | tup k1 k3 =>
        obtain ⟨rfl, _⟩ := pure_ok e
        exact ⟨_, _, _, _, rfl, .inr ⟨SqT.of h1, SqT.of k1, q _ fun B' hB C hC' => have hC := (walk_sub hB hC'); wd_zipT (bm_new p2.bok hC) h1 (denL_new hC h3) k1 (denL_new hC k3)⟩⟩
      | _ => exact (stk_ok (g := G0) e).elim
    | _ => cases n2 <;> exact (stk_ok (g := G0) e).elim
  | .rev e, tg, X, W, sc, a, t, O, cv, h, _, _ => by
    rcases mI_rev h with ⟨py, v, pos, rfl, h1, h2⟩
    obtain ⟨g1, g2, g3⟩ := glo_gl O h1
    refine pi_mono (RT.pi_revA g1 (O.bn _ (by decide)) (ex_pe e X W sc v O cv h2) (star_cons (mE_plain h2))) fun σ H R ⟨B, ρ, g, p, w⟩ => ⟨B, ρ, g, p, ?_⟩
    unfold evIt at w
    refine (Wr.bind w).mono fun d g1 H1 f1 a1 w1 v n _ => ?_
    have p1 := p.step f1 a1
    obtain ⟨ds, e, kk⟩ := Wr.ofPr (pr_seq _) (Wr.bind w1) a1
    have q := Wr.pure (kk H1 .refl a1) a1
    cases n with
    | lst h1 h2 h3 =>
      obtain ⟨rfl, _⟩ := pure_ok e
      exact ⟨_, _, rfl, .inl ⟨SqL.of h1, q _ fun B' hB C hC' => have hC := (walk_sub hB hC'); wd_revL (bm_new p1.bok hC) h1 (not_new hC h1 h2) (denL_new hC h3)⟩⟩
    | tup h1 h3 =>
      obtain ⟨rfl, _⟩ := pure_ok e
      exact ⟨_, _, rfl, .inr ⟨SqT.of h1, q _ fun B' hB C hC' => have hC := (walk_sub hB hC'); wd_revT (bm_new p1.bok hC) h1 (denL_new hC h3)⟩⟩
    | _ => exact (stk_ok (g := G0) e).elim
end
end
end TI
set_option Elab.async false
set_option linter.all false
set_option maxRecDepth 100000
set_option maxHeartbeats 8000000
/-! a frame's state: slots with values, slots that own what they hold -/
namespace TI
open PySem PySem.Spec PyProof.Rows L2

section
variable (K : PySem.W.Frag) (r : Addr) (H : Hp) (C : Addr → Prop)
inductive OwnD (p : Addr) : D → Prop
  | lst {vs : List V} {ds : List D} : H p = some (.lst vs) → DenL K r H C vs ds → OwnD p (.lst ds)
  | dK {kvs : List (Key × V)} {ks : List Ky} {ds : List D} : H p = some (.dK kvs) → kvs.map (·.1) = ks.map Ky.k → DenL K r H C (kvs.map (·.2)) ds → OwnD p (.dK ks ds)
  | dT {kvs : List (List Key × V)} {ks : List (List Ky)} {ds : List D} : H p = some (.dT kvs) → kvs.map (·.1) = ks.map (·.map Ky.k) → DenL K r H C (kvs.map (·.2)) ds → OwnD p (.dT ks ds)
inductive OwnL : List Addr → List D → Prop
  | nil : OwnL [] []
  | cons {q : Addr} {qs : List Addr} {d : D} {ds : List D} : OwnD K r H C q d → OwnL qs ds → OwnL (q :: qs) (d :: ds)
inductive OwnD2 (p : Addr) (qs : List Addr) : D → Prop
  | lst {ds : List D} : H p = some (.lst (qs.map .ref)) → OwnL K r H C qs ds → OwnD2 p qs (.lst ds)
  | dK {kvs : List (Key × V)} {ks : List Ky} {ds : List D} : H p = some (.dK kvs) → kvs.map (·.1) = ks.map Ky.k → kvs.map (·.2) = qs.map .ref → OwnL K r H C qs ds → OwnD2 p qs (.dK ks ds)
  | dT {kvs : List (List Key × V)} {ks : List (List Ky)} {ds : List D} : H p = some (.dT kvs) → kvs.map (·.1) = ks.map (·.map Ky.k) → kvs.map (·.2) = qs.map .ref → OwnL K r H C qs ds → OwnD2 p qs (.dT ks ds)
/-- a slot, what the frame has there, the addresses that it owns -/
inductive SR : Option V → Sl → List Addr → Prop
  | no {x : Option V} : SR x .no []
  | val {v : V} {d : D} : Den K r H C v d → SR (some v) (.val d) []
  | own {p : Addr} {d : D} : OwnD K r H C p d → SR (some (.ref p)) (.own d) [p]
  | ow2 {p : Addr} {qs : List Addr} {d : D} : OwnD2 K r H C p qs d → SR (some (.ref p)) (.ow2 d) (p :: qs)
end
section
variable {K : PySem.W.Frag} {r : Addr} {H H' : Hp} {C C' : Addr → Prop}
theorem OwnD.there {p : Addr} {d : D} (h : OwnD K r H C p d) : ∃ o, H p = some o ∧ mutO o = true := by
  cases h with
  | lst h _ => exact ⟨_, h, rfl⟩
  | dK h _ _ => exact ⟨_, h, rfl⟩
  | dT h _ _ => exact ⟨_, h, rfl⟩
theorem OwnL.there : ∀ {qs : List Addr} {ds : List D}, OwnL K r H C qs ds → ∀ q ∈ qs, ∃ o, H q = some o ∧ mutO o = true
  | _, _, .nil, q, h => by simp at h
  | _, _, .cons a t, q, h => by
    rcases List.mem_cons.mp h with rfl | h
    · exact a.there
    · exact t.there q h
theorem SR.there {x : Option V} {s : Sl} {os : List Addr} (h : SR K r H C x s os) : ∀ a ∈ os, ∃ o, H a = some o ∧ mutO o = true := by
  intro a ha
  cases h with
  | no => simp at ha
  | val _ => simp at ha
  | own h =>
    obtain rfl : a = _ := by simpa using ha
    exact h.there
  | ow2 h =>
    cases h with
    | lst h1 h2 =>
      rcases List.mem_cons.mp ha with rfl | ha
      · exact ⟨_, h1, rfl⟩
      · exact h2.there a ha
    | dK h1 _ _ h2 =>
      rcases List.mem_cons.mp ha with rfl | ha
      · exact ⟨_, h1, rfl⟩
      · exact h2.there a ha
    | dT h1 _ _ h2 =>
      rcases List.mem_cons.mp ha with rfl | ha
      · exact ⟨_, h1, rfl⟩
      · exact h2.there a ha
theorem OwnD.mono {p : Addr} {d : D} (n : ∀ a o, H a = some o → mutO o = true → ¬ C a → ¬ C' a) (f : Fr C' H H') (b : BM C' H) (k : H' p = H p) (h : OwnD K r H C p d) : OwnD K r H' C' p d := by
  cases h with
  | lst h1 h2 => exact .lst (k.trans h1) (DenL.frM f b _ _ (DenL.ban n _ _ h2))
  | dK h1 e h2 => exact .dK (k.trans h1) e (DenL.frM f b _ _ (DenL.ban n _ _ h2))
  | dT h1 e h2 => exact .dT (k.trans h1) e (DenL.frM f b _ _ (DenL.ban n _ _ h2))
theorem OwnL.mono (n : ∀ a o, H a = some o → mutO o = true → ¬ C a → ¬ C' a) (f : Fr C' H H') (b : BM C' H) : ∀ {qs : List Addr} {ds : List D}, (∀ q ∈ qs, H' q = H q) → OwnL K r H C qs ds → OwnL K r H' C' qs ds
  | _, _, _, .nil => .nil
  | _, _, k, .cons a t => .cons (a.mono n f b (k _ List.mem_cons_self)) (t.mono n f b fun q h => k q (List.mem_cons_of_mem _ h))
theorem OwnD2.mono {p : Addr} {qs : List Addr} {d : D} (n : ∀ a o, H a = some o → mutO o = true → ¬ C a → ¬ C' a) (f : Fr C' H H') (b : BM C' H) (k : ∀ a ∈ p :: qs, H' a = H a) (h : OwnD2 K r H C p qs d) : OwnD2 K r H' C' p qs d := by
  have k1 := k p List.mem_cons_self
  have k2 : ∀ q ∈ qs, H' q = H q := fun q h => k q (List.mem_cons_of_mem _ h)
  cases h with
  | lst h1 h2 => exact .lst (k1.trans h1) (h2.mono n f b k2)
  | dK h1 e1 e2 h2 => exact .dK (k1.trans h1) e1 e2 (h2.mono n f b k2)
  | dT h1 e1 e2 h2 => exact .dT (k1.trans h1) e1 e2 (h2.mono n f b k2)
theorem SR.mono {x : Option V} {s : Sl} {os : List Addr} (n : ∀ a o, H a = some o → mutO o = true → ¬ C a → ¬ C' a) (f : Fr C' H H') (b : BM C' H) (k : ∀ a ∈ os, H' a = H a) (h : SR K r H C x s os) : SR K r H' C' x s os := by
  cases h with
  | no => exact .no
  | val h => exact .val (Den.frM f b _ _ (Den.ban n _ _ h))
  | own h => exact .own (h.mono n f b (k _ List.mem_cons_self))
  | ow2 h => exact .ow2 (h.mono n f b k)
theorem OwnD.den {p : Addr} {d : D} (n : ∀ a o, H a = some o → mutO o = true → ¬ C a → ¬ C' a) (np : ¬ C' p) (h : OwnD K r H C p d) : Den K r H C' (.ref p) d := by
  cases h with
  | lst h1 h2 => exact .lst h1 np (DenL.ban n _ _ h2)
  | dK h1 e h2 => exact .dK h1 np e (DenL.ban n _ _ h2)
  | dT h1 e h2 => exact .dT h1 np e (DenL.ban n _ _ h2)
theorem OwnL.den (n : ∀ a o, H a = some o → mutO o = true → ¬ C a → ¬ C' a) : ∀ {qs : List Addr} {ds : List D}, (∀ q ∈ qs, ¬ C' q) → OwnL K r H C qs ds → DenL K r H C' (qs.map .ref) ds
  | _, _, _, .nil => .nil
  | _, _, k, .cons a t => .cons (a.den n (k _ List.mem_cons_self)) (t.den n fun q h => k q (List.mem_cons_of_mem _ h))
theorem OwnD2.den {p : Addr} {qs : List Addr} {d : D} (n : ∀ a o, H a = some o → mutO o = true → ¬ C a → ¬ C' a) (np : ∀ a ∈ p :: qs, ¬ C' a) (h : OwnD2 K r H C p qs d) : Den K r H C' (.ref p) d := by
  have k1 := np p List.mem_cons_self
  have k2 : ∀ q ∈ qs, ¬ C' q := fun q h => np q (List.mem_cons_of_mem _ h)
  cases h with
  | lst h1 h2 => exact .lst h1 k1 (h2.den n k2)
  | dK h1 e1 e2 h2 => exact .dK h1 k1 e1 (by rw [e2]; exact h2.den n k2)
  | dT h1 e1 e2 h2 => exact .dT h1 k1 e1 (by rw [e2]; exact h2.den n k2)
/-- what a slot holds, its addresses not banned -/
theorem SR.den {x : Option V} {s : Sl} {os : List Addr} {d : D} (n : ∀ a o, H a = some o → mutO o = true → ¬ C a → ¬ C' a) (np : ∀ a ∈ os, ¬ C' a) (h : SR K r H C x s os) (e : s.d = some d) : ∃ v, x = some v ∧ Den K r H C' v d := by
  cases h with
  | no => cases e
  | val h => cases e; exact ⟨_, rfl, Den.ban n _ _ h⟩
  | own h => cases e; exact ⟨_, rfl, h.den n (np _ List.mem_cons_self)⟩
  | ow2 h => cases e; exact ⟨_, rfl, h.den n np⟩
end
/-- all that is banned -/
def Cn (B : Addr → Prop) (o : Nat → List Addr) : Addr → Prop := fun a => B a ∨ ∃ i, a ∈ o i
/-- .. but what the slots vs own -/
def Bx (B : Addr → Prop) (o : Nat → List Addr) (vs : List Nat) : Addr → Prop := fun a => B a ∨ ∃ i, i ∉ vs ∧ a ∈ o i
def Mo (Z : Spc) (o : Nat → List Addr) : Addr → Prop := fun a => Z.F a ∨ ∃ i, a ∈ o i
def uo (o : Nat → List Addr) (i : Nat) (os : List Addr) : Nat → List Addr := fun j => if j = i then os else o j
structure Rel (X : Cc) (Z : Spc) (B : Addr → Prop) (ρ : List Sl) (σ : L2.St) (g : G) (H : Hp) (o : Nat → List Addr) : Prop where
  sub : ∀ a, Z.F a → B a
  bok : BOk B H
  at' : Z.At g H
  len : σ.length = X.n
  lnr : ρ.length = X.n
  sl : ∀ i s, ρ[i]? = some s → ∃ x, σ[i]? = some x ∧ SR X.K Z.r H (Cn B o) x s (o i)
  out : ∀ i, ρ.length ≤ i → o i = []
  dis : ∀ i j a, a ∈ o i → a ∈ o j → i = j
  nd : ∀ i, (o i).Nodup
  nB : ∀ i a, a ∈ o i → ¬ B a
structure Stp (Z : Spc) (H : Hp) (o : Nat → List Addr) (H' : Hp) (o' : Nat → List Addr) : Prop where
  fr : Fr (Mo Z o) H H'
  lt : ∀ a, Mo Z o' a → Mo Z o a ∨ H a = none
  mu : ∀ a, Mo Z o a → ∃ ob, H' a = some ob ∧ mutO ob = true
section
variable {X : Cc} {Z : Spc} {B : Addr → Prop} {ρ ρ' : List Sl} {σ σ' : L2.St} {g g' g1 : G} {H H' H1 : Hp} {o o' o1 : Nat → List Addr}
theorem Rel.there (R : Rel X Z B ρ σ g H o) {i : Nat} {a : Addr} (h : a ∈ o i) : ∃ ob, H a = some ob ∧ mutO ob = true := by
  by_cases z : i < ρ.length
  · obtain ⟨x, _, s⟩ := R.sl i ρ[i] (List.getElem?_eq_getElem z)
    exact s.there a h
  · rw [R.out i (by omega)] at h; simp at h
theorem Rel.cok (R : Rel X Z B ρ σ g H o) : BOk (Cn B o) H := fun a h => by
  rcases h with h | ⟨i, h⟩
  · exact R.bok a h
  · exact R.there h
theorem Rel.bxok (R : Rel X Z B ρ σ g H o) {vs : List Nat} : BOk (Bx B o vs) H := fun a h => by
  rcases h with h | ⟨i, _, h⟩
  · exact R.bok a h
  · exact R.there h
theorem Stp.refl (R : Rel X Z B ρ σ g H o) : Stp Z H o H o := ⟨.refl, fun a h => .inl h, fun a h => by
  rcases h with h | ⟨i, h⟩
  · exact Z.mu R.at' a h
  · exact R.there h⟩
theorem Stp.trans (a : Stp Z H o H1 o1) (b : Stp Z H1 o1 H' o') : Stp Z H o H' o' where
  fr := fun x ob e n => b.fr x ob (a.fr x ob e n) fun m => by
    rcases a.lt x m with m | m
    · exact n m
    · rw [e] at m; cases m
  lt := fun x m => by
    rcases b.lt x m with m | m
    · exact a.lt x m
    · by_cases q : Mo Z o x
      · exact .inl q
      · refine .inr ?_
        cases e : H x with
        | none => rfl
        | some ob => rw [a.fr x ob e q] at m; cases m
  mu := fun x m => by
    by_cases q : Mo Z o1 x
    · exact b.mu x q
    · obtain ⟨ob, e, mm⟩ := a.mu x m
      exact ⟨ob, b.fr x ob e q, mm⟩
theorem Rel.pre (R : Rel X Z B ρ σ g H o) (vs : List Nat) : Pre X Z (Bx B o vs) ρ g σ H vs where
  sub := fun a h => .inl (R.sub a h)
  bok := R.bxok
  at' := R.at'
  len := R.len
  sl := fun i hi d e => by
    unfold vget at e
    cases q : ρ[i]? with
    | none => rw [q] at e; cases e
    | some s =>
      rw [q] at e
      obtain ⟨x, h1, h2⟩ := R.sl i s q
      obtain ⟨v, rfl, h3⟩ := h2.den (C' := Bx B o vs) (fun a ob _ _ n m => n (by
        rcases m with m | ⟨j, _, m⟩
        · exact .inl m
        · exact .inr ⟨j, m⟩)) (fun a ha m => by
        rcases m with m | ⟨j, nj, m⟩
        · exact R.nB i a ha m
        · exact nj ((R.dis i j a ha m) ▸ hi)) (show s.d = some d from e)
      exact ⟨v, h1, h3⟩
/-- an expression was evaluated -/
theorem Rel.step (R : Rel X Z B ρ σ g H o) (f : Fr Z.F H H1) (a : Z.At g1 H1) : Rel X Z B ρ σ g1 H1 o where
  sub := R.sub
  bok := bok_step R.sub R.bok f a
  at' := a
  len := R.len
  lnr := R.lnr
  sl := fun i s e => by
    obtain ⟨x, h1, h2⟩ := R.sl i s e
    refine ⟨x, h1, h2.mono (fun _ _ _ _ n => n) (f.mono fun y h => .inl (R.sub y h)) R.cok.bm fun y hy => ?_⟩
    obtain ⟨ob, e, _⟩ := R.there hy
    rw [e]; exact f y ob e fun z => R.nB i y hy (R.sub y z)
  out := R.out
  dis := R.dis
  nd := R.nd
  nB := R.nB
theorem Rel.stp (R : Rel X Z B ρ σ g H o) (f : Fr Z.F H H1) (a : Z.At g1 H1) : Stp Z H o H1 o :=
  ⟨f.mono fun y h => .inl h, fun _ h => .inl h, (Stp.refl (R.step f a)).mu⟩
/-- a slot is set anew -/
theorem Rel.put {i : Nat} {os : List Addr} {s : Sl} {x : Option V} (R : Rel X Z B ρ σ g H o) (hi : i < X.n) (f : Fr (Cn B (uo o i os)) H H') (keep : ∀ j, j ≠ i → ∀ a ∈ o j, H' a = H a) (at' : Z.At g' H') (bok : BOk B H')
    (new : ∀ a ∈ os, ¬ B a ∧ (a ∈ o i ∨ H a = none)) (nd : os.Nodup) (hs : SR X.K Z.r H' (Cn B (uo o i os)) x s os) : Rel X Z B (ρ.set i s) (σ.set i x) g' H' (uo o i os) where
  sub := R.sub
  bok := bok
  at' := at'
  len := by rw [List.length_set]; exact R.len
  lnr := by rw [List.length_set]; exact R.lnr
  sl := fun j s' e => by
    by_cases q : j = i
    · subst q
      rw [List.getElem?_set_self (by rw [R.lnr]; exact hi)] at e
      cases e
      refine ⟨x, List.getElem?_set_self (by rw [R.len]; exact hi), ?_⟩
      simp only [uo, if_pos]
      exact hs
    · rw [List.getElem?_set_ne (Ne.symm q)] at e
      obtain ⟨y, h1, h2⟩ := R.sl j s' e
      refine ⟨y, by rw [List.getElem?_set_ne (Ne.symm q)]; exact h1, ?_⟩
      have e1 : uo o i os j = o j := by simp [uo, q]
      rw [e1]
      refine h2.mono (fun a ob ea _ n m => n ?_) f (fun a ob ea m => ?_) (keep j q)
      · rcases m with m | ⟨l, m⟩
        · exact .inl m
        · by_cases z : l = i
          · subst z
            simp only [uo, if_pos] at m
            rcases (new a m).2 with w | w
            · exact .inr ⟨_, w⟩
            · rw [ea] at w; cases w
          · simp only [uo, if_neg z] at m
            exact .inr ⟨l, m⟩
      · rcases m with m | ⟨l, m⟩
        · exact R.bok.bm a ob ea m
        · by_cases z : l = i
          · subst z
            simp only [uo, if_pos] at m
            rcases (new a m).2 with w | w
            · obtain ⟨ob', e', mm⟩ := R.there w
              rw [ea] at e'; cases e'; exact mm
            · rw [ea] at w; cases w
          · simp only [uo, if_neg z] at m
            obtain ⟨ob', e', mm⟩ := R.there m
            rw [ea] at e'; cases e'; exact mm
  out := fun j hj => by
    rw [List.length_set] at hj
    by_cases z : j = i
    · subst z; rw [R.lnr] at hj; omega
    · simp only [uo, if_neg z]; exact R.out j hj
  dis := fun j l a h1 h2 => by
    have key : ∀ l, l ≠ i → a ∈ o l → a ∈ os → False := fun l nl h1 h2 => by
      rcases (new a h2).2 with w | w
      · exact nl (R.dis l i a h1 w)
      · obtain ⟨ob', e', _⟩ := R.there h1
        rw [w] at e'; cases e'
    by_cases z : j = i
    · by_cases z2 : l = i
      · rw [z, z2]
      · subst z
        simp only [uo, if_pos, if_neg z2] at h1 h2
        exact (key l z2 h2 h1).elim
    · by_cases z2 : l = i
      · subst z2
        simp only [uo, if_pos, if_neg z] at h1 h2
        exact (key j z h1 h2).elim
      · simp only [uo, if_neg z, if_neg z2] at h1 h2
        exact R.dis j l a h1 h2
  nd := fun j => by
    by_cases z : j = i
    · simp only [uo, if_pos z]; exact nd
    · simp only [uo, if_neg z]; exact R.nd j
  nB := fun j a h => by
    by_cases z : j = i
    · simp only [uo, if_pos z] at h; exact (new a h).1
    · simp only [uo, if_neg z] at h; exact R.nB j a h
theorem Rel.put_stp {i : Nat} {os : List Addr} {s : Sl} {x : Option V} (R : Rel X Z B ρ σ g H o) (R' : Rel X Z B (ρ.set i s) (σ.set i x) g' H' (uo o i os)) (f : Fr (Mo Z o) H H') (keep : ∀ j, ∀ a ∈ o j, ∃ ob, H' a = some ob ∧ mutO ob = true)
    (new : ∀ a ∈ os, a ∈ o i ∨ H a = none) : Stp Z H o H' (uo o i os) where
  fr := f
  lt := fun a m => by
    rcases m with m | ⟨l, m⟩
    · exact .inl (.inl m)
    · by_cases z : l = i
      · subst z
        simp only [uo, if_pos] at m
        rcases new a m with w | w
        · exact .inl (.inr ⟨_, w⟩)
        · exact .inr w
      · simp only [uo, if_neg z] at m
        exact .inl (.inr ⟨l, m⟩)
  mu := fun a m => by
    rcases m with m | ⟨l, m⟩
    · exact Z.mu R'.at' a m
    · exact keep l a m
/-- a slot takes a value -/
theorem Rel.setV {i : Nat} {v : V} {d : D} (R : Rel X Z B ρ σ g H o) (hi : i < X.n) (h : Den X.K Z.r H (Cn B o) v d) : Rel X Z B (ρ.set i (.val d)) (σ.set i (some v)) g H (uo o i []) ∧ Stp Z H o H (uo o i []) := by
  have R' : Rel X Z B (ρ.set i (.val d)) (σ.set i (some v)) g H (uo o i []) := R.put hi .refl (fun _ _ _ _ => rfl) R.at' R.bok (by simp) .nil (.val (Den.ban (fun a ob _ _ n m => n (by
    rcases m with m | ⟨l, m⟩
    · exact .inl m
    · by_cases z : l = i
      · subst z; simp [uo] at m
      · simp only [uo, if_neg z] at m
        exact .inr ⟨l, m⟩)) _ _ h))
  exact ⟨R', R.put_stp R' .refl (fun j a h => R.there h) (by simp)⟩
/-- slots give up what they own -/
theorem Rel.frz1 (R : Rel X Z B ρ σ g H o) (i : Nat) : Rel X Z B (frz1 ρ i) σ g H (uo o i []) ∧ Stp Z H o H (uo o i []) := by
  unfold TI.frz1
  have go : ∀ s d, ρ[i]? = some s → s.d = some d → Rel X Z B (ρ.set i (.val d)) σ g H (uo o i []) ∧ Stp Z H o H (uo o i []) := fun s d e ed => by
    have hi : i < X.n := by rw [← R.lnr]; exact (List.getElem?_eq_some_iff.mp e).1
    obtain ⟨x, h1, h2⟩ := R.sl i s e
    obtain ⟨v, rfl, h3⟩ := h2.den (C' := Cn B (uo o i [])) (fun a ob _ _ n m => n (by
      rcases m with m | ⟨l, m⟩
      · exact .inl m
      · by_cases z : l = i
        · subst z; simp [uo] at m
        · simp only [uo, if_neg z] at m
          exact .inr ⟨l, m⟩)) (fun a ha m => by
      rcases m with m | ⟨l, m⟩
      · exact R.nB i a ha m
      · by_cases z : l = i
        · subst z; simp [uo] at m
        · simp only [uo, if_neg z] at m
          exact z (R.dis l i a m ha)) ed
    have R' : Rel X Z B (ρ.set i (.val d)) (σ.set i (some v)) g H (uo o i []) := R.put hi .refl (fun _ _ _ _ => rfl) R.at' R.bok (by simp) .nil (.val h3)
    have S' := R.put_stp R' .refl (fun j a h => R.there h) (by simp)
    have e2 : σ.set i (some v) = σ := by
      obtain ⟨hl, e⟩ := List.getElem?_eq_some_iff.mp h1
      rw [← e]; exact List.set_getElem_self hl
    rw [e2] at R'
    exact ⟨R', S'⟩
  have stay : (∀ s, ρ[i]? = some s → (∀ d, s ≠ .own d) ∧ ∀ d, s ≠ .ow2 d) → Rel X Z B ρ σ g H (uo o i []) ∧ Stp Z H o H (uo o i []) := fun h => by
    have e : uo o i [] = o := by
      funext j
      by_cases z : j = i
      · subst z
        simp only [uo, if_pos]
        cases q : ρ[j]? with
        | none => exact (R.out j (by rw [List.getElem?_eq_none_iff] at q; exact q)).symm
        | some s =>
          obtain ⟨x, _, h2⟩ := R.sl j s q
          obtain ⟨n1, n2⟩ := h s q
          generalize o j = os at h2
          cases h2 with
          | no => rfl
          | val _ => rfl
          | own _ => exact absurd rfl (n1 _)
          | ow2 _ => exact absurd rfl (n2 _)
      · simp only [uo, if_neg z]
    rw [e]
    exact ⟨R, .refl R⟩
  split
  · rename_i d e; exact go _ d e rfl
  · rename_i d e; exact go _ d e rfl
  · rename_i n1 n2
    exact stay fun s e => ⟨fun d z => n1 d (by rw [e, z]), fun d z => n2 d (by rw [e, z])⟩
theorem Rel.frz : ∀ (vs : List Nat) {ρ : List Sl} {o : Nat → List Addr}, Rel X Z B ρ σ g H o → ∃ o', Rel X Z B (frz ρ vs) σ g H o' ∧ Stp Z H o H o' ∧ ∀ a, Cn B o' a → Bx B o vs a
  | [], ρ, o, R => ⟨o, R, .refl R, fun a h => by
    rcases h with h | ⟨l, h⟩
    · exact .inl h
    · exact .inr ⟨l, by simp, h⟩⟩
  | v :: vs, ρ, o, R => by
    obtain ⟨R1, S1⟩ := R.frz1 v
    obtain ⟨o', R2, S2, h⟩ := Rel.frz vs R1
    refine ⟨o', R2, S1.trans S2, fun a ha => ?_⟩
    rcases h a ha with m | ⟨l, nl, m⟩
    · exact .inl m
    · by_cases z : l = v
      · subst z; simp [uo] at m
      · simp only [uo, if_neg z] at m
        exact .inr ⟨l, by simp [z, nl], m⟩
theorem noOwn_bx (R : Rel X Z B ρ σ g H o) {vs : List Nat} (h : noOwn ρ vs = true) : ∀ a, Cn B o a → Bx B o vs a := fun a ha => by
  rcases ha with m | ⟨l, m⟩
  · exact .inl m
  · refine .inr ⟨l, fun hl => ?_, m⟩
    have := List.all_eq_true.mp h l hl
    cases q : ρ[l]? with
    | none => rw [R.out l (by rw [List.getElem?_eq_none_iff] at q; exact q)] at m; simp at m
    | some s =>
      rw [q] at this
      obtain ⟨x, _, h2⟩ := R.sl l s q
      generalize o l = os at h2 m
      cases h2 with
      | no => simp at m
      | val _ => simp at m
      | own _ => cases this
      | ow2 _ => cases this
/-- the state in which a value may be kept -/
theorem Rel.shr (R : Rel X Z B ρ σ g H o) (vs : List Nat) (p : Bool) : ∃ o', Rel X Z B (shr ρ vs p) σ g H o' ∧ Stp Z H o H o' ∧ (p = true ∨ ∀ a, Cn B o' a → Bx B o vs a) := by
  unfold TI.shr
  split
  · rename_i h
    rw [Bool.or_eq_true] at h
    refine ⟨o, R, .refl R, ?_⟩
    rcases h with h | h
    · exact .inr (noOwn_bx R h)
    · exact .inl h
  · obtain ⟨o', h1, h2, h3⟩ := R.frz vs
    exact ⟨o', h1, h2, .inr h3⟩
end
end TI
set_option Elab.async false
set_option linter.all false
set_option maxRecDepth 100000
set_option maxHeartbeats 8000000
/-! statements: that a statement is a piece of the text; what it does is what the model does -/
namespace TI
open PySem PySem.Spec PyProof.Rows L2

/-! ### the check -/
def noComp : Expr → Bool
  | .ListComp _ _ _ _ | .SetComp _ _ _ _ | .DictComp _ _ _ _ _ => false
  | _ => true
def swOk (sc : Scope) (x : Str) (p : Pos) : Expr → Bool
  | .ListComp _ _ scope cp => decide (sc.names.lookup x = some .local) && (decide (sc.kind = .function) && ((p.line == cp.line) && !(scope.names.any fun (n, k) => n == x && (k == .local || k == .cell))))
  | e => noComp e
def Ex.isC : Ex → Bool
  | .comp _ _ _ _ _ => true
  | _ => false
def isTup : Expr → Bool
  | .Tuple _ _ _ => true
  | _ => false
def mNm (N : List Str) (sc : Scope) (i : Nat) (x : Str) : Bool := decide (N[i]? = some x) && (decide (sc.names.lookup x = some .local) || decide (sc.names.lookup x = some .cell))
mutual
def mS (N : List Str) (sc : Scope) : St → Stmt → Bool
  | .set _ i e, q => match q with
    | .Assign [.Name x p] v _ => mNm N sc i x && (mE N sc e v && (swOk sc x p v && (noComp v || e.isC)))
    | _ => false
  | .unp ts e, q => match q with
    | .Assign [.Tuple es kk tp] v _ => mTs N sc ts es && (mE N sc e v && (noComp v && !(isTup v)))
    | _ => false
  | .app i e, q => match q with
    | .Expr (.Call (.Attribute (.Name x p) nm ap) [v] [] cp) _ => decide (nm = ("append" : Str)) && (mName N sc i x && (mE N sc e v && (ap.endLine == cp.line)))
    | _ => false
  | .sti i k e, q => match q with
    | .Assign [.Subscript (.Name x p) j sp] v _ => mName N sc i x && (mE N sc k j && mE N sc e v)
    | _ => false
  | .apk i k e, q => match q with
    | .Expr (.Call (.Attribute (.Subscript (.Name x p) j sp) nm ap) [v] [] cp) _ => decide (nm = ("append" : Str)) && (mName N sc i x && (mE N sc k j && (mE N sc e v && (ap.endLine == cp.line))))
    | _ => false
  | .stf i k e, q => match q with
    | .Assign [.Subscript (.Name x p) j sp] v _ => mName N sc i x && (mE N sc k j && mE N sc e v)
    | _ => false
  | .st2 i k j e, q => match q with
    | .Assign [.Subscript (.Subscript (.Name x p) kk sp0) jj sp] v _ => mName N sc i x && (mE N sc k kk && (mE N sc j jj && mE N sc e v))
    | _ => false
  | .exp e, q => match q with
    | .Expr v _ => mE N sc e v && noComp v
    | _ => false
  | .ret e, q => match q with
    | .Return (some v) _ => mE N sc e v
    | _ => false
  | .ife c a b, q => match q with
    | .If c' a' b' _ => mE N sc c c' && (mSs N sc a a' && mSs N sc b b')
    | _ => false
  | .whl c b, q => match q with
    | .While c' b' [] _ => mE N sc c c' && mSs N sc b b'
    | _ => false
  | .for_ tg it b, q => match q with
    | .For t i b' [] _ => okTg it tg && (mI N sc it i && (mT N sc tg t && mSs N sc b b'))
    | _ => false
  | .brk, q => match q with
    | .Break _ => true
    | _ => false
  | .cnt, q => match q with
    | .Continue _ => true
    | _ => false
  | .pas, q => match q with
    | .Pass _ => true
    | _ => false
  | _, _ => false
def mSs (N : List Str) (sc : Scope) : Sts → List Stmt → Bool
  | .nil, [] => true
  | .cons s ss, a :: as => mS N sc s a && mSs N sc ss as
  | _, _ => false
end
mutual
def St.calls : St → List (Str × Sem)
  | .set _ _ e | .unp _ e | .aug _ _ e | .app _ e | .exp e | .ret e => e.calls
  | .sti _ k e | .stf _ k e => e.calls ++ k.calls
  | .apk _ k e => k.calls ++ e.calls
  | .st2 _ k j e => e.calls ++ (k.calls ++ j.calls)
  | .ife c a b => c.calls ++ (a.calls ++ b.calls)
  | .whl c b => c.calls ++ b.calls
  | .for_ _ it b => it.calls ++ b.calls
  | .brk | .cnt | .pas => []
def Sts.calls : Sts → List (Str × Sem)
  | .nil => []
  | .cons s ss => s.calls ++ ss.calls
end
mutual
def St.globs : St → List (Str × D)
  | .set _ _ e | .unp _ e | .aug _ _ e | .app _ e | .exp e | .ret e => e.globs
  | .sti _ k e | .stf _ k e => e.globs ++ k.globs
  | .apk _ k e => k.globs ++ e.globs
  | .st2 _ k j e => e.globs ++ (k.globs ++ j.globs)
  | .ife c a b => c.globs ++ (a.globs ++ b.globs)
  | .whl c b => c.globs ++ b.globs
  | .for_ _ it b => it.globs ++ b.globs
  | .brk | .cnt | .pas => []
def Sts.globs : Sts → List (Str × D)
  | .nil => []
  | .cons s ss => s.globs ++ ss.globs
end

/-! ### what is wished behind a statement -/
def WrS (X : Cc) (Z : Spc) (B : Addr → Prop) (W : WX) (H : Hp) (o : Nat → List Addr) (D : Ends) : Res Out → Prop
  | .ok (.nx ρ') g' => ∀ σ' H' o', Rel X Z B ρ' σ' g' H' o' → Stp Z H o H' o' → D.nx σ' H'
  | .ok (.bk ρ') g' => ∀ σ' H' o', Rel X Z B ρ' σ' g' H' o' → Stp Z H o H' o' → D.bk σ' H'
  | .ok (.ct ρ') g' => ∀ σ' H' o', Rel X Z B ρ' σ' g' H' o' → Stp Z H o H' o' → D.ct σ' H'
  | .ok (.rt d) g' => ∀ v H', Z.At g' H' → Fr (Mo Z o) H H' → Den X.K Z.r H' B v d → D.rt v H'
  | .ok (.ex e _) g' => ∀ σ' cls dd H', Z.At g' H' → Fr (Mo Z o) H H' → ErrAt X Z B e cls dd H' → W cls dd σ' H'
  | _ => False
def tS (X : Cc) (Z : Spc) (W : WX) (m : List Sl → M Out) : TS := fun D σ H => ∃ B ρ g o, Rel X Z B ρ σ g H o ∧ WrS X Z B W H o D (m ρ g)
theorem ErrAt.ban {X : Cc} {Z : Spc} {B B' : Addr → Prop} {e : Er} {cls : Value} {dd : Option Addr} {H : Hp} (n : ∀ a, B' a → B a) (h : ErrAt X Z B e cls dd H) : ErrAt X Z B' e cls dd H := by
  obtain ⟨C, dx, fs, h1, h2, h3, h4, h5⟩ := h
  exact ⟨C, dx, fs, h1, h2, h3, h4, DenL.ban (fun a ob _ _ m z => m (n a z)) _ _ h5⟩
section
variable {X : Cc} {Z : Spc} {B : Addr → Prop} {W : WX} {ρ ρ' : List Sl} {σ σ' : L2.St} {g g' g1 : G} {H H' H1 : Hp} {o o' o1 : Nat → List Addr} {D D' : Ends}
theorem Stp.fr_mo (S : Stp Z H o H1 o1) (f : Fr (Mo Z o1) H1 H') : Fr (Mo Z o) H H' := fun x ob e n => f x ob (S.fr x ob e n) fun m => by
  rcases S.lt x m with m | m
  · exact n m
  · rw [e] at m; cases m
theorem WrS.from {r : Res Out} (h : WrS X Z B W H o D r) (S : Stp Z H o H1 o1) : WrS X Z B W H1 o1 D r := by
  cases r with
  | ok u g =>
    cases u with
    | nx ρ => exact fun σ' H' o' R s => h σ' H' o' R (S.trans s)
    | bk ρ => exact fun σ' H' o' R s => h σ' H' o' R (S.trans s)
    | ct ρ => exact fun σ' H' o' R s => h σ' H' o' R (S.trans s)
    | rt d => exact fun v H' a f n => h v H' a (S.fr_mo f) n
    | ex e ρ => exact fun σ' cls dd H' a f n => h σ' cls dd H' a (S.fr_mo f) n
  | err e g => exact h
  | stuck => exact h
theorem WrS.stk {g : G} (h : WrS X Z B W H o D ((M.stk : M Out) g)) : False := h
theorem WrS.grd {c : Bool} {m : M Out} {g : G} (h : WrS X Z B W H o D (grd c m g)) : c = true ∧ WrS X Z B W H o D (m g) := by
  unfold TI.grd at h
  split at h
  · exact ⟨by assumption, h⟩
  · exact h.elim
/-- on with what an expression gave -/
theorem lif_wr {α : Type} {m : M α} {k : α → M Out} (vs : List Nat) (R : Rel X Z B ρ σ g H o) (h : WrS X Z B W H o D (lif m ρ' k g)) :
    Wr Z H (fun a g1 H1 => Rel X Z B ρ σ g1 H1 o ∧ Stp Z H o H1 o ∧ WrS X Z B W H o D (k a g1)) (erW X Z (Bx B o vs) W σ) (m g) := by
  unfold lif at h
  cases e : m g with
  | ok a g1 =>
    rw [e] at h
    exact fun H1 f1 a1 => ⟨R.step f1 a1, R.stp f1 a1, h⟩
  | err x g1 =>
    rw [e] at h
    exact fun H1 f1 a1 cls dd ea => h σ cls dd H1 a1 (f1.mono fun y z => .inl z) (ea.ban fun a z => .inl z)
  | stuck => rw [e] at h; exact h.elim
theorem bx_keep {vs : List Nat} {p : Bool} {d : TI.D} {v : V} {C : Addr → Prop} (h : p = true ∨ ∀ a, C a → Bx B o vs a) (hp : p = true → d.pure = true) (n : Den X.K Z.r H (Bx B o vs) v d) : Den X.K Z.r H C v d := by
  rcases h with h | h
  · exact Den.pur d v (hp h) n
  · exact Den.ban (fun a ob _ _ m z => m (h a z)) d v n
theorem bx_B {vs : List Nat} {d : TI.D} {v : V} (n : Den X.K Z.r H (Bx B o vs) v d) : Den X.K Z.r H B v d := Den.ban (fun a ob _ _ m z => m (.inl z)) d v n
theorem mem_one {α : Type} {a b : α} (h : a ∈ [b]) : a = b := by simpa using h
/-- an own list is laid into a slot -/
theorem Rel.setO {i : Nat} {p : Addr} {d : TI.D} {vs : List Nat} (R : Rel X Z B ρ σ g H o) (hi : i < X.n) (f : Fr Z.F H H1) (a1 : Z.At g1 H1) (n : Den X.K Z.r H1 (Bx B o vs) (.ref p) d) (np : H p = none) (ic : isCont d = true) (pk : TI.D.pureL d.kids = true) :
    Rel X Z B (ρ.set i (.own d)) (σ.set i (some (.ref p))) g1 H1 (uo o i [p]) ∧ Stp Z H o H1 (uo o i [p]) := by
  have R1 := R.step f a1
  have nB : ¬ B p := fun z => by
    obtain ⟨ob, e, _⟩ := R.bok p z
    rw [np] at e; cases e
  have R' : Rel X Z B (ρ.set i (.own d)) (σ.set i (some (.ref p))) g1 H1 (uo o i [p]) := by
    refine R.put hi (f.mono fun y z => .inl (R.sub y z)) (fun j _ a ha => ?_) a1 R1.bok (fun a ha => ?_) (by simp) (.own ?_)
    · obtain ⟨ob, e, _⟩ := R.there ha
      rw [e]; exact f a ob e fun z => R.nB j a ha (R.sub a z)
    · obtain rfl := mem_one ha
      exact ⟨nB, .inr np⟩
    · cases n with
      | lst h1 _ h3 => exact .lst h1 (DenL.pur _ _ pk h3)
      | dK h1 _ e h3 => exact .dK h1 e (DenL.pur _ _ pk h3)
      | dT h1 _ e h3 => exact .dT h1 e (DenL.pur _ _ pk h3)
      | _ => cases ic
  exact ⟨R', R.put_stp R' (f.mono fun y z => .inl z) (fun j a ha => R1.there ha) fun a ha => by
    obtain rfl := mem_one ha
    exact .inr np⟩
theorem ownL_of {C : Addr → Prop} {B' : Addr → Prop} {r : Addr} {K : PySem.W.Frag} : ∀ {qs : List Addr} {ds : List TI.D}, DenL K r H B' (qs.map .ref) ds → ds.all isCont = true → (ds.all fun x => TI.D.pureL x.kids) = true → OwnL K r H C qs ds
  | [], ds, h, _, _ => by cases h; exact .nil
  | q :: qs, ds, h, h1, h2 => by
    cases h with
    | cons n t =>
      simp only [List.all_cons, Bool.and_eq_true] at h1 h2
      refine .cons ?_ (ownL_of t h1.2 h2.2)
      cases n with
      | lst h _ h3 => exact .lst h (DenL.pur _ _ h2.1 h3)
      | dK h _ e h3 => exact .dK h e (DenL.pur _ _ h2.1 h3)
      | dT h _ e h3 => exact .dT h e (DenL.pur _ _ h2.1 h3)
      | tup _ _ => cases h1.1
      | wel => cases h1.1
theorem Rel.setO2 {i : Nat} {p : Addr} {qs : List Addr} {d : TI.D} (R : Rel X Z B ρ σ g H o) (hi : i < X.n) (f : Fr Z.F H H1) (a1 : Z.At g1 H1) (np : ∀ a ∈ p :: qs, H a = none) (nd : (p :: qs).Nodup) (h : OwnD2 X.K Z.r H1 (Cn B (uo o i (p :: qs))) p qs d) :
    Rel X Z B (ρ.set i (.ow2 d)) (σ.set i (some (.ref p))) g1 H1 (uo o i (p :: qs)) ∧ Stp Z H o H1 (uo o i (p :: qs)) := by
  have R1 := R.step f a1
  have nB : ∀ a ∈ p :: qs, ¬ B a := fun a ha z => by
    obtain ⟨ob, e, _⟩ := R.bok a z
    rw [np a ha] at e; cases e
  have R' : Rel X Z B (ρ.set i (.ow2 d)) (σ.set i (some (.ref p))) g1 H1 (uo o i (p :: qs)) := by
    refine R.put hi (f.mono fun y z => .inl (R.sub y z)) (fun j _ a ha => ?_) a1 R1.bok (fun a ha => ⟨nB a ha, .inr (np a ha)⟩) nd (.ow2 h)
    obtain ⟨ob, e, _⟩ := R.there ha
    rw [e]; exact f a ob e fun z => R.nB j a ha (R.sub a z)
  exact ⟨R', R.put_stp R' (f.mono fun y z => .inl z) (fun j a ha => R1.there ha) fun a ha => .inr (np a ha)⟩
end
end TI
set_option Elab.async false
set_option linter.all false
set_option maxRecDepth 100000
set_option maxHeartbeats 8000000
namespace TI
open PySem PySem.Spec PyProof.Rows L2
theorem ps_mono {X : Cx} {s : Stmt} {t u : TS} (h : PS X s t) (k : ∀ D σ H, u D σ H → t D σ H) : PS X s u := ⟨fun pins s σ H D I q => h.run pins s σ H D I (k D σ H q)⟩
theorem pss_mono {X : Cx} {s : List Stmt} {t u : TS} (h : PSs X s t) (k : ∀ D σ H, u D σ H → t D σ H) : PSs X s u := ⟨fun pins s σ H D I q => h.run pins s σ H D I (k D σ H q)⟩
theorem no_swap {e : Expr} (h : noComp e = true) (tg : Option Expr) (l : Nat) (env : Env) : swapsWith e tg l env = pure false := by
  cases e <;> first | rfl | cases h
theorem no_swap_sub (e : Expr) (o i : Expr) (p : Pos) (l : Nat) (env : Env) : swapsWith e (some (.Subscript o i p)) l env = pure false := by
  cases e <;> rfl
theorem no_stores {tg e : Expr} (h : isTup e = false) (env : Env) : swappedStores [tg] e env = pure none := by
  cases e <;> first | cases h; done | (cases tg <;> rfl)
theorem isC_eq {e : Ex} (h : e.isC = true) : ∃ tg it c e' own, e = .comp tg it c e' own := by
  cases e <;> first | exact ⟨_, _, _, _, _, rfl⟩ | cases h
section
variable {X : Cx} {Z : Spc} {W : WX} {k : Nat} {sc : Scope}
theorem nm_loc (O : XOk X Z W k sc) {i : Nat} {x : Str} (h : mNm X.N sc i x = true) (hf : ∀ x, sc.names.lookup x = some .cell → X.fn x = true) : X.N[i]? = some x ∧ L2.Loc X.env.scope x ∧ (X.fn x = true ∨ X.env.scope.names.lookup x = some .local) ∧ i < X.N.length := by
  unfold mNm at h
  simp only [Bool.and_eq_true, Bool.or_eq_true, decide_eq_true_eq] at h
  refine ⟨h.1, ?_, ?_, (List.getElem?_eq_some_iff.mp h.1).1⟩
  · show X.env.scope.names.lookup _ = _ ∨ X.env.scope.names.lookup _ = _
    rw [O.sc]
    rcases h.2 with q | q
    · exact .inl q
    · exact .inr q
  · rw [O.sc]
    rcases h.2 with q | q
    · exact .inr q
    · exact .inl (hf x q)
theorem ps_setA (O : XOk X Z W k sc) (hf : ∀ x, sc.names.lookup x = some .cell → X.fn x = true) {e : Ex} {i : Nat} {x : Str} {v : Expr} {p pos : Pos} (cv : Cov X Z k e.calls e.globs) (h1 : mNm X.N sc i x = true) (h : mE X.N sc e v = true) (h2 : swOk sc x p v = true) (h9 : (noComp v || e.isC) = true) :
    PS X (.Assign [.Name x p] v pos) (tAsg (tM (cc X) Z W e.vs e.fresh (ev e)) (gName i)) := by
  obtain ⟨n1, n2, n3, n4⟩ := nm_loc O h1 hf
  by_cases hc : noComp v = true
  · exact ps_set O.nd n1 n2 (ex_pe e X W sc v O cv h) (no_swap hc _ _ _) n3
  · cases v with
    | ListComp elt gs scope cp =>
      obtain ⟨tg, it, c, e, own, rfl⟩ := isC_eq (show e.isC = true from by simpa [noComp] using h9)
      · unfold mE at h
        replace h := (Bool.and_eq_true_iff.mp h).2
        split at h
        · rename_i elt' t it' ifs z scope' cp' heq
          cases heq
          simp only [Bool.and_eq_true, decide_eq_true_eq] at h
          obtain ⟨rfl, hok, h1', h2', h3, h4, h5, h6⟩ := h
          have hw : ∀ i ∈ tg.ws, i ∈ own.map (·.2) := fun i hi => by
            have := List.all_eq_true.mp h4 i hi
            simpa using this
          unfold swOk at h2
          simp only [Bool.and_eq_true, decide_eq_true_eq, Bool.not_eq_true'] at h2
          obtain ⟨s1, s2, s3, s4⟩ := h2
          refine ps_mono (ps_setLc O.calm O.nd n1 (by rw [O.sc]; exact s1) (sw_true (by rw [O.sc]; exact s2) (by rw [O.sc]; exact s1) s3 s4) (it_pi it tg X W sc it' t O cv.l h1' hok (tg_tup hok h3)) (by rw [O.sc]; exact blkOk_by h2')
            (fun s H C cl fp => show PG _ t (gT X.K tg) from pg_of (X := X.blk s H scope (compEnvC scope cl C X.env) fp) (sc := scope) O.nd O.calm (fun x e => lookup_relS_keep (sc := X.env.scope) (by decide) e) (fun x e => ⟨lookup_relS_keep (sc := X.env.scope) (by decide) e, by show (scope.names.lookup x == some .cell) = true; rw [e]; rfl⟩) tg t h3)
            (fun s H C cl fp => show PTs _ ifs (tMB (cc X) Z W0 c.vs (evC c)) from op_pts c _ W0 (relS scope sc) ifs (O.blk s H C cl fp) cv.r.l.blk h5)
            (fun s H C cl fp => show PE _ elt (tM (cc X) Z W0 e.vs e.fresh (ev e)) from ex_pe e _ W0 (relS scope sc) elt (O.blk s H C cl fp) cv.r.r.blk h6)
            (mI_fold h1')) fun D σ H w => ?_
          exact lc_red (N := X.N) (sc' := scope) (tge := t) rfl h3 hw w
        · exact absurd h Bool.false_ne_true
    | SetComp _ _ _ _ => cases h2
    | DictComp _ _ _ _ _ => cases h2
    | _ => exact absurd rfl hc
end
mutual
theorem rel_bindT {X : Cc} {Z : Spc} {B : Addr → Prop} {H : Hp} {N : List Str} {sc : Scope} (hN : N.length = X.n) : ∀ (t : Tg) (d : D) (v : V) (ρ : List Sl) (σ : L2.St) (g : G) (o : Nat → List Addr) (ρ' : List Sl) (g' : G) (e : Expr) (Q : L2.St → Hp → Prop), mT N sc t e = true → Rel X Z B ρ σ g H o →
    bindT t d ρ g = .ok ρ' g' → Den X.K Z.r H (Cn B o) v d → (∀ σ' o', Rel X Z B ρ' σ' g' H o' → Stp Z H o H o' → (∀ a, Cn B o' a → Cn B o a) → Q σ' H) → gT X.K t v σ H Q
  | .nm i, d, v, ρ, σ, g, o, ρ', g', e, Q, hm, R, hb, hv, q => by
    unfold bindT at hb
    obtain ⟨rfl, rfl⟩ := pure_ok hb
    have hi : i < X.n := by
      cases e with
      | Name x pos =>
        simp only [mT, Bool.and_eq_true, decide_eq_true_eq] at hm
        rw [← hN]
        exact (List.getElem?_eq_some_iff.mp hm.1).1
      | _ => simp [mT] at hm
    obtain ⟨R1, S1⟩ := R.setV hi hv
    exact q _ _ R1 S1 fun a ha => by
      rcases ha with m | ⟨l, m⟩
      · exact .inl m
      · by_cases z : l = i
        · subst z; simp [uo] at m
        · simp only [uo, if_neg z] at m
          exact .inr ⟨l, m⟩
  | .tp ts, d, v, ρ, σ, g, o, ρ', g', e, Q, hm, R, hb, hv, q => by
    unfold bindT at hb
    split at hb
    · rename_i ds
      obtain ⟨a, vs, rfl, h1, h2⟩ := sqT_tup hv
      cases e with
      | Tuple es kk pos =>
        simp only [mT] at hm
        exact ⟨a, vs, rfl, SqT.of h1, h2.length.trans (bindTs_g ts ds ρ g ρ' g' hb).2, rel_bindTs hN ts ds vs ρ σ g o ρ' g' es Q hm R hb h2 q⟩
      | _ => simp [mT] at hm
    · exact (stk_ok hb).elim
theorem rel_bindTs {X : Cc} {Z : Spc} {B : Addr → Prop} {H : Hp} {N : List Str} {sc : Scope} (hN : N.length = X.n) : ∀ (ts : Tgs) (ds : List D) (vs : List V) (ρ : List Sl) (σ : L2.St) (g : G) (o : Nat → List Addr) (ρ' : List Sl) (g' : G) (es : List Expr) (Q : L2.St → Hp → Prop), mTs N sc ts es = true → Rel X Z B ρ σ g H o →
    bindTs ts ds ρ g = .ok ρ' g' → DenL X.K Z.r H (Cn B o) vs ds → (∀ σ' o', Rel X Z B ρ' σ' g' H o' → Stp Z H o H o' → (∀ a, Cn B o' a → Cn B o a) → Q σ' H) → gTs X.K ts vs σ H Q
  | .nil, [], vs, ρ, σ, g, o, ρ', g', es, Q, hm, R, hb, hv, q => by
    cases hv
    unfold bindTs at hb
    obtain ⟨rfl, rfl⟩ := pure_ok hb
    exact ⟨rfl, q σ o R (.refl R) fun a h => h⟩
  | .nil, _ :: _, vs, ρ, σ, g, o, ρ', g', es, Q, hm, R, hb, hv, q => by
    unfold bindTs at hb; exact (stk_ok hb).elim
  | .cons t ts, [], vs, ρ, σ, g, o, ρ', g', es, Q, hm, R, hb, hv, q => by
    unfold bindTs at hb; exact (stk_ok hb).elim
  | .cons t ts, d :: ds, vs, ρ, σ, g, o, ρ', g', es, Q, hm, R, hb, hv, q => by
    cases es with
    | nil => simp [mTs] at hm
    | cons e es =>
      simp only [mTs, Bool.and_eq_true] at hm
      unfold bindTs at hb
      obtain ⟨ρ1, g1, hb1, hb2⟩ := bind_ok hb
      cases hv with
      | cons h1 h2 =>
        rename_i v vs
        have eg := bindT_g t d ρ g ρ1 g1 hb1
        exact ⟨v, vs, rfl, rel_bindT hN t d v ρ σ g o ρ1 g1 e (fun σ1 H1 => gTs X.K ts vs σ1 H1 Q) hm.1 R hb1 h1 fun σ1 o1 R1 S1 c1 =>
          rel_bindTs hN ts ds vs ρ1 σ1 g1 o1 ρ' g' es Q hm.2 R1 hb2 (DenL.ban (fun a ob _ _ m z => m (c1 a z)) _ _ h2) fun σ' o' R2 S2 c2 => q σ' o' R2 (S1.trans S2) fun a h => c1 a (c2 a h)⟩
end
end TI
set_option Elab.async false
set_option linter.all false
set_option maxRecDepth 100000
set_option maxHeartbeats 8000000
namespace TI
open PySem PySem.Spec PyProof.Rows L2
section
variable {K : PySem.W.Frag} {r : Addr} {H : Hp} {C : Addr → Prop} {κ α : Type} [DecidableEq κ] [DecidableEq α] {f : α → κ} (inj : ∀ {a b : α}, f a = f b → a = b)
include inj
theorem put_any {k : α} : ∀ {kvs : List (κ × V)} {ks : List α}, kvs.map (·.1) = ks.map f → (kvs.any fun kv => decide (kv.1 = f k)) = memA k ks
  | [], [], _ => rfl
  | [], _ :: _, h => by simp at h
  | _ :: _, [], h => by simp at h
  | p :: kvs, a :: ks, h => by
    simp only [List.map_cons, List.cons.injEq] at h
    have ih := put_any (k := k) h.2
    unfold memA at ih ⊢
    simp only [List.any_cons, ih, h.1]
    congr 1
    by_cases e : a = k
    · subst e; simp
    · have : ¬ f a = f k := fun z => e (inj z)
      simp [e, this]
theorem put_rep {k : α} {v : V} {d : D} (n : Den K r H C v d) : ∀ {kvs : List (κ × V)} {ks : List α} {ds : List D}, kvs.map (·.1) = ks.map f → DenL K r H C (kvs.map (·.2)) ds →
    (kvs.map (fun kv => if kv.1 = f k then (kv.1, v) else kv)).map (·.1) = ks.map f ∧ DenL K r H C ((kvs.map (fun kv => if kv.1 = f k then (kv.1, v) else kv)).map (·.2)) (repA k d ks ds)
  | [], [], ds, _, h => ⟨rfl, by cases h; exact .nil⟩
  | [], _ :: _, _, h, _ => by simp at h
  | _ :: _, [], _, h, _ => by simp at h
  | p :: kvs, a :: ks, ds, h, l => by
    simp only [List.map_cons, List.cons.injEq] at h
    cases l with
    | cons l1 l2 =>
      obtain ⟨i1, i2⟩ := put_rep (k := k) n h.2 l2
      simp only [List.map_cons, repA]
      by_cases e : a = k
      · subst e
        rw [if_pos h.1, if_pos rfl]
        exact ⟨by rw [i1]; simp [h.1], .cons n i2⟩
      · have : ¬ p.1 = f k := fun z => e (inj (h.1.symm.trans z))
        rw [if_neg this, if_neg e]
        exact ⟨by rw [i1]; simp [h.1], .cons l1 i2⟩
theorem put_rel {k : α} {v : V} {d : D} {kvs : List (κ × V)} {ks : List α} {ds : List D} (n : Den K r H C v d) (h : kvs.map (·.1) = ks.map f) (l : DenL K r H C (kvs.map (·.2)) ds) :
    (putK kvs (f k) v).map (·.1) = (putA k d ks ds).1.map f ∧ DenL K r H C ((putK kvs (f k) v).map (·.2)) (putA k d ks ds).2 := by
  unfold putK putA
  rw [put_any inj h]
  by_cases e : memA k ks = true
  · rw [if_pos e, if_pos e]
    exact put_rep inj n h l
  · rw [if_neg e, if_neg e]
    refine ⟨by simp [h], ?_⟩
    rw [List.map_append]
    exact l.append (.cons n .nil)
end
section
variable {X : Cc} {Z : Spc} {B : Addr → Prop} {W : WX} {ρ ρ' : List Sl} {σ σ' : L2.St} {g g' g1 : G} {H H' H1 : Hp} {o o' o1 : Nat → List Addr} {E : Ends}
/-- what a slot owns is written anew -/
theorem Rel.wr {i : Nat} {p : Addr} {d d' : TI.D} {ob : HO} (R : Rel X Z B ρ σ g H o) (e : ρ[i]? = some (.own d)) (hp : σ[i]? = some (some (.ref p))) (op : o i = [p]) (hs : OwnD X.K Z.r (upd H p ob) (Cn B o) p d') :
    Rel X Z B (ρ.set i (.own d')) σ g (upd H p ob) o ∧ Stp Z H o (upd H p ob) o := by
  have hi : i < X.n := by rw [← R.lnr]; exact (List.getElem?_eq_some_iff.mp e).1
  have pi : p ∈ o i := by rw [op]; simp
  have eo : uo o i [p] = o := by
    funext j
    by_cases z : j = i
    · subst z; simp only [uo, if_pos]; exact op.symm
    · simp only [uo, if_neg z]
  have es : σ.set i (some (.ref p)) = σ := by
    obtain ⟨hl, e⟩ := List.getElem?_eq_some_iff.mp hp
    rw [← e]; exact List.set_getElem_self hl
  have nF : ¬ Z.F p := fun z => R.nB i p pi (R.sub p z)
  have at' : Z.At g (upd H p ob) := Z.loc R.at' fun a x f ea => by
    have : a ≠ p := fun z => nF (z ▸ f)
    rw [upd_ne this]; exact ea
  have nb : ∀ a, B a → a ≠ p := fun a ha z => R.nB i p pi (z ▸ ha)
  have R' : Rel X Z B (ρ.set i (.own d')) (σ.set i (some (.ref p))) g (upd H p ob) (uo o i [p]) := by
    refine R.put hi (by rw [eo]; exact Fr.put (.inr ⟨i, pi⟩)) (fun j nj a ha => ?_) at' (fun a ha => ?_) (fun a ha => ?_) (by simp) (by rw [eo]; exact .own hs)
    · have : a ≠ p := fun z => nj (R.dis j i a ha (z ▸ pi))
      rw [upd_ne this]
    · obtain ⟨x, ex, m⟩ := R.bok a ha
      exact ⟨x, by rw [upd_ne (nb a ha)]; exact ex, m⟩
    · obtain rfl := mem_one ha
      exact ⟨R.nB i a pi, .inl pi⟩
  have S' : Stp Z H o (upd H p ob) (uo o i [p]) := R.put_stp R' (Fr.put (.inr ⟨i, pi⟩)) (fun j a ha => by
    by_cases z : a = p
    · subst z; exact hs.there
    · rw [upd_ne z]; exact R.there ha) fun a ha => by
    obtain rfl := mem_one ha
    exact .inl pi
  rw [eo, es] at R'
  rw [eo] at S'
  exact ⟨R', S'⟩
theorem own_slot (R : Rel X Z B ρ σ g H o) {i : Nat} {d : TI.D} (e : ρ[i]? = some (.own d)) : ∃ p, σ[i]? = some (some (.ref p)) ∧ o i = [p] ∧ OwnD X.K Z.r H (Cn B o) p d := by
  obtain ⟨x, h1, h2⟩ := R.sl i _ e
  generalize ho : o i = os at h2
  cases h2 with
  | own h => exact ⟨_, h1, rfl, h⟩
theorem cn_upd {p : Addr} {i : Nat} {ob : HO} (R : Rel X Z B ρ σ g H o) (pi : o i = [p]) {d : TI.D} {v : V} (n : Den X.K Z.r H (Cn B o) v d) : Den X.K Z.r (upd H p ob) (Cn B o) v d := Den.fr (Fr.put (.inr ⟨i, by rw [pi]; simp⟩)) R.cok d v n
theorem cn_updL {p : Addr} {i : Nat} {ob : HO} (R : Rel X Z B ρ σ g H o) (pi : o i = [p]) {d : List TI.D} {v : List V} (n : DenL X.K Z.r H (Cn B o) v d) : DenL X.K Z.r (upd H p ob) (Cn B o) v d := DenL.fr (Fr.put (.inr ⟨i, by rw [pi]; simp⟩)) R.cok d v n
/-- x.append(..) -/
theorem app_wr {i : Nat} {d : TI.D} {v : V} (R : Rel X Z B ρ σ g H o) (n : Den X.K Z.r H (Cn B o) v d) (w : WrS X Z B W H o E (appD ρ i d g)) :
    ∃ p vs, σ[i]? = some (some (.ref p)) ∧ H p = some (.lst vs) ∧ vs.length < sizeLine ∧ E.nx σ (upd H p (.lst (vs ++ [v]))) := by
  unfold appD at w
  cases e : ρ[i]? with
  | none => rw [e] at w; exact (WrS.stk (g := G0) w).elim
  | some s =>
    rw [e] at w
    cases s with
    | own d0 =>
      cases d0 with
      | lst xs =>
        obtain ⟨c, w⟩ := WrS.grd (show WrS X Z B W H o E (grd (decide (xs.length < line)) (pure (Out.nx (ρ.set i (.own (.lst (xs ++ [d])))))) g) from w)
        have c := of_decide_eq_true c
        rw [line_eq] at c
        obtain ⟨p, h1, h2, h3⟩ := own_slot R e
        cases h3 with
        | lst h4 h5 =>
          rename_i vs
          obtain ⟨R', S'⟩ := R.wr (d' := .lst (xs ++ [d])) (ob := .lst (vs ++ [v])) e h1 h2 (.lst upd_same (cn_updL R h2 (h5.append (.cons n .nil))))
          exact ⟨p, vs, h1, h4, by rw [h5.length]; exact c, w _ _ _ R' S'⟩
      | _ => exact (WrS.stk (g := G0) w).elim
    | _ => exact (WrS.stk (g := G0) w).elim
theorem sti_wr {i : Nat} {q d : TI.D} {v y : V} {C : Addr → Prop} (R : Rel X Z B ρ σ g H o) (n : Den X.K Z.r H (Cn B o) v d) (ny : Den X.K Z.r H C y q) (w : WrS X Z B W H o E (stiD ρ i q d g)) :
    ∃ p, σ[i]? = some (some (.ref p)) ∧ (rSetL (.ref p) y v H (fun H' => E.nx σ H') ∨ rSetD (.ref p) y v H (fun H' => E.nx σ H')) := by
  unfold stiD at w
  cases e : ρ[i]? with
  | none => rw [e] at w; exact (WrS.stk (g := G0) w).elim
  | some s =>
    rw [e] at w
    cases s with
    | own d0 =>
      obtain ⟨p, h1, h2, h3⟩ := own_slot R e
      cases h3 with
      | lst h4 h5 =>
        rename_i vs xs
        cases q with
        | int j =>
          cases hm : ixN xs.length j with
          | none =>
            replace w : WrS X Z B W H o E ((match ixN xs.length j with
              | some n => pure (Out.nx (ρ.set i (.own (.lst (xs.set n d)))))
              | none => M.stk) g) := w
            rw [hm] at w
            exact (WrS.stk (g := G0) w).elim
          | some m =>
            replace w : WrS X Z B W H o E ((match ixN xs.length j with
              | some n => pure (Out.nx (ρ.set i (.own (.lst (xs.set n d)))))
              | none => M.stk) g) := w
            rw [hm] at w
            obtain rfl := den_int ny
            obtain ⟨R', S'⟩ := R.wr (d' := .lst (xs.set m d)) (ob := .lst (vs.set m v)) e h1 h2 (.lst upd_same (cn_updL R h2 (h5.set n m)))
            exact ⟨p, h1, .inl ⟨p, vs, j, m, rfl, rfl, h4, by rw [h5.length]; exact hm, w _ _ _ R' S'⟩⟩
        | _ => exact (WrS.stk (g := G0) w).elim
      | dK h4 h5 h6 =>
        rename_i kvs ks vs
        replace w : WrS X Z B W H o E ((match kyOf q with
          | some k => grd (decide (ks.length < line)) (pure (Out.nx (ρ.set i (.own (.dK (putA k d ks vs).1 (putA k d ks vs).2)))))
          | none => M.stk) g) := w
        cases hk : kyOf q with
        | none => rw [hk] at w; exact (WrS.stk (g := G0) w).elim
        | some kk =>
          rw [hk] at w
          obtain ⟨c, w⟩ := WrS.grd (show WrS X Z B W H o E (grd _ _ g) from w)
          have c := of_decide_eq_true c
          rw [line_eq] at c
          have hl : kvs.length < sizeLine := by
            have := congrArg List.length h5
            rw [List.length_map, List.length_map] at this
            omega
          obtain ⟨i1, i2⟩ := put_rel (f := Ky.k) Ky.k_inj (k := kk) n h5 h6
          obtain ⟨R', S'⟩ := R.wr (d' := .dK (putA kk d ks vs).1 (putA kk d ks vs).2) (ob := .dK (putK kvs kk.k v)) e h1 h2 (.dK upd_same i1 (cn_updL R h2 i2))
          refine ⟨p, h1, .inr ⟨p, _, rfl, ?_, w _ _ _ R' S'⟩⟩
          rw [kyOf_den ny hk]
          exact DPut.k h4 hl
      | dT h4 h5 h6 =>
        rename_i kvs ks vs
        replace w : WrS X Z B W H o E ((match kyT q with
          | some k => grd (decide (ks.length < line)) (pure (Out.nx (ρ.set i (.own (.dT (putA k d ks vs).1 (putA k d ks vs).2)))))
          | none => M.stk) g) := w
        cases hk : kyT q with
        | none => rw [hk] at w; exact (WrS.stk (g := G0) w).elim
        | some kk =>
          rw [hk] at w
          obtain ⟨c, w⟩ := WrS.grd (show WrS X Z B W H o E (grd _ _ g) from w)
          have c := of_decide_eq_true c
          rw [line_eq] at c
          have hl : kvs.length < sizeLine := by
            have := congrArg List.length h5
            rw [List.length_map, List.length_map] at this
            omega
          obtain ⟨i1, i2⟩ := put_rel (f := List.map Ky.k) map_k_inj (k := kk) n h5 h6
          obtain ⟨R', S'⟩ := R.wr (d' := .dT (putA kk d ks vs).1 (putA kk d ks vs).2) (ob := .dT (putK kvs (kk.map Ky.k) v)) e h1 h2 (.dT upd_same i1 (cn_updL R h2 i2))
          obtain ⟨b, rfl, hb⟩ := kyT_den ny hk
          exact ⟨p, h1, .inr ⟨p, _, rfl, DPut.t h4 hb hl, w _ _ _ R' S'⟩⟩
    | _ => exact (WrS.stk (g := G0) w).elim
end
end TI
set_option Elab.async false
set_option linter.all false
set_option maxRecDepth 100000
set_option maxHeartbeats 8000000
/-! lists within own lists and dicts -/
namespace TI
open PySem PySem.Spec PyProof.Rows L2
section
variable {K : PySem.W.Frag} {r : Addr} {H H' : Hp} {C : Addr → Prop}
theorem OwnL.length : ∀ {qs : List Addr} {ds : List D}, OwnL K r H C qs ds → qs.length = ds.length
  | _, _, .nil => rfl
  | _, _, .cons _ t => by simp [t.length]
theorem OwnL.get : ∀ {qs : List Addr} {ds : List D} {n : Nat} {d : D}, OwnL K r H C qs ds → ds[n]? = some d → ∃ q, qs[n]? = some q ∧ OwnD K r H C q d
  | _, _, _, _, .nil, e => by simp at e
  | _, _, 0, _, .cons a t, e => by simp at e; subst e; exact ⟨_, rfl, a⟩
  | _, _, n + 1, _, .cons a t, e => by
    obtain ⟨q, h1, h2⟩ := t.get (n := n) (by simpa using e)
    exact ⟨q, by simpa using h1, h2⟩
/-- one of them is written anew -/
theorem OwnL.upd1 {q : Addr} {d' : D} (h : OwnD K r H' C q d') (f : Fr C H H') (b : BM C H) : ∀ {qs : List Addr} {ds : List D} {n : Nat}, OwnL K r H C qs ds → qs[n]? = some q → qs.Nodup → (∀ a ∈ qs, a ≠ q → H' a = H a) → OwnL K r H' C qs (ds.set n d')
  | _, _, _, .nil, e, _, _ => by simp at e
  | _, _, 0, .cons a t, e, nd, k => by
    simp at e
    subst e
    rw [List.nodup_cons] at nd
    exact .cons h (t.mono (fun _ _ _ _ n => n) f b fun x hx => k x (List.mem_cons_of_mem _ hx) fun z => nd.1 (z ▸ hx))
  | _, _, n + 1, .cons a t, e, nd, k => by
    rw [List.nodup_cons] at nd
    have e : _ := (by simpa using e : _ = some q)
    refine .cons (a.mono (fun _ _ _ _ n => n) f b (k _ List.mem_cons_self fun z => nd.1 (z ▸ List.mem_of_getElem? e))) ?_
    exact OwnL.upd1 h f b t e nd.2 fun x hx => k x (List.mem_cons_of_mem _ hx)
theorem OwnL.setN {q : Addr} {d' : D} (h : OwnD K r H C q d') : ∀ {qs : List Addr} {ds : List D} (n : Nat), OwnL K r H C qs ds → OwnL K r H C (qs.set n q) (ds.set n d')
  | _, _, _, .nil => .nil
  | _, _, 0, .cons a t => .cons h t
  | _, _, n + 1, .cons a t => .cons a (t.setN h n)
theorem OwnL.app {q : Addr} {d' : D} (h : OwnD K r H C q d') : ∀ {qs : List Addr} {ds : List D}, OwnL K r H C qs ds → OwnL K r H C (qs ++ [q]) (ds ++ [d'])
  | _, _, .nil => .cons h .nil
  | _, _, .cons a t => .cons a (t.app h)
theorem idxA_val {k : Ky} : ∀ {kvs : List (Key × V)} {ks : List Ky} {n : Nat}, kvs.map (·.1) = ks.map Ky.k → idxA k ks = some n → ∃ v, (kvs.map (·.2))[n]? = some v ∧ valV kvs k.k = some v
  | [], [], _, _, e => by cases e
  | [], _ :: _, _, h, _ => by simp at h
  | _ :: _, [], _, h, _ => by simp at h
  | p :: kvs, a :: ks, n, h, e => by
    simp only [List.map_cons, List.cons.injEq] at h
    unfold idxA at e
    by_cases q : a = k
    · subst q
      rw [if_pos rfl] at e
      cases e
      exact ⟨p.2, rfl, valV_pos h.1⟩
    · rw [if_neg q] at e
      cases e2 : idxA k ks with
      | none => rw [e2] at e; cases e
      | some m =>
        rw [e2] at e
        cases e
        obtain ⟨v, h1, h2⟩ := idxA_val h.2 e2
        exact ⟨v, by simpa using h1, by rw [valV_neg fun z => q (Ky.k_inj (h.1.symm.trans z))]; exact h2⟩
/-- x[k], x a list or a dict, as it stands there -/
def rOw (K : PySem.W.Frag) : R2 := fun x y H Q => (∃ (a : Addr) (xs : List V) (i : Int) (v : V), x = .ref a ∧ y = .int i ∧ SqL K H a xs ∧ atI xs i = some v ∧ Q v H) ∨ (∃ (a : Addr) (v : V), x = .ref a ∧ DGet H a y (some v) ∧ Q v H)
theorem ixr_ow {X : Cx} (hu : X.A.units + 200 < cLine) : IxR X (rOw X.K) := by
  intro value slice pins s σ H x y v u Q I rx ry h hs
  rcases h with ⟨a, xs, i, z, rfl, rfl, h1, h2, q⟩ | ⟨a, z, rfl, g, q⟩
  · exact ix_list value slice pins s σ H _ _ v u Q I rx ry ⟨_, _, _, _, rfl, rfl, h1, h2, q⟩ hs
  · exact ix_dict (by omega) value slice pins s σ H _ _ v u Q I rx ry ⟨_, _, rfl, g, q⟩ hs
theorem kid_at {B' : Addr → Prop} {p : Addr} {qs : List Addr} {d q dn : D} {y : V} {n : Nat} {Q : VK} (h : OwnD2 K r H C p qs d) (hy : Den K r H B' y q) (hk : kidIx d q = some n) (hd : d.kids[n]? = some dn) :
    ∃ qn, qs[n]? = some qn ∧ OwnD K r H C qn dn ∧ (Q (.ref qn) H → rOw K (.ref p) y H Q) := by
  cases h with
  | lst h1 h2 =>
    rename_i xs
    obtain ⟨qn, e1, e2⟩ := h2.get (show xs[n]? = some dn from hd)
    cases q with
    | int j =>
      obtain rfl := den_int hy
      refine ⟨qn, e1, e2, fun hq => .inl ⟨p, _, j, .ref qn, rfl, rfl, SqL.of h1, ?_, hq⟩⟩
      unfold atI
      rw [List.length_map, h2.length, show ixN xs.length j = some n from hk]
      show (qs.map V.ref)[n]? = _
      rw [List.getElem?_map, e1]; rfl
    | _ => cases hk
  | dK h1 h2 h3 h4 =>
    rename_i kvs ks xs
    obtain ⟨qn, e1, e2⟩ := h4.get (show xs[n]? = some dn from hd)
    have hk : (kyOf q).bind (fun k => idxA k ks) = some n := hk
    cases ek : kyOf q with
    | none => rw [ek] at hk; cases hk
    | some k =>
      rw [ek] at hk
      obtain ⟨v, v1, v2⟩ := idxA_val h2 (show idxA k ks = some n from hk)
      rw [h3, List.getElem?_map, e1] at v1
      cases v1
      refine ⟨qn, e1, e2, fun hq => .inr ⟨p, _, rfl, ?_, hq⟩⟩
      rw [kyOf_den hy ek, ← v2]
      exact DGet.k h1
  | dT h1 h2 h3 h4 => cases hk
end
section
variable {X : Cc} {Z : Spc} {B : Addr → Prop} {W : WX} {ρ ρ' : List Sl} {σ σ' : L2.St} {g g' g1 : G} {H H' H1 : Hp} {o o' o1 : Nat → List Addr} {E : Ends}
theorem ow2_slot (R : Rel X Z B ρ σ g H o) {i : Nat} {d : TI.D} (e : ρ[i]? = some (.ow2 d)) : ∃ p qs, σ[i]? = some (some (.ref p)) ∧ o i = p :: qs ∧ OwnD2 X.K Z.r H (Cn B o) p qs d := by
  obtain ⟨x, h1, h2⟩ := R.sl i _ e
  generalize ho : o i = os at h2
  cases h2 with
  | ow2 h => exact ⟨_, _, h1, rfl, h⟩
/-- what a slot owns becomes another -/
theorem Rel.wrS {i : Nat} {p a : Addr} {qs : List Addr} {d d' : TI.D} {ob : HO} (R : Rel X Z B ρ σ g H o) (e : ρ[i]? = some (.ow2 d)) (hp : σ[i]? = some (some (.ref p))) (op : o i = p :: qs) (ha : a ∈ p :: qs) (hs : OwnD2 X.K Z.r (upd H a ob) (Cn B o) p qs d') :
    Rel X Z B (ρ.set i (.ow2 d')) σ g (upd H a ob) o ∧ Stp Z H o (upd H a ob) o := by
  have hi : i < X.n := by rw [← R.lnr]; exact (List.getElem?_eq_some_iff.mp e).1
  have pi : a ∈ o i := by rw [op]; exact ha
  have eo : uo o i (p :: qs) = o := by
    funext j
    by_cases z : j = i
    · subst z; simp only [uo, if_pos]; exact op.symm
    · simp only [uo, if_neg z]
  have es : σ.set i (some (.ref p)) = σ := by
    obtain ⟨hl, e⟩ := List.getElem?_eq_some_iff.mp hp
    rw [← e]; exact List.set_getElem_self hl
  have nF : ¬ Z.F a := fun z => R.nB i a pi (R.sub a z)
  have at' : Z.At g (upd H a ob) := Z.loc R.at' fun b x f ea => by
    have : b ≠ a := fun z => nF (z ▸ f)
    rw [upd_ne this]; exact ea
  have nb : ∀ b, B b → b ≠ a := fun b hb z => R.nB i a pi (z ▸ hb)
  have R' : Rel X Z B (ρ.set i (.ow2 d')) (σ.set i (some (.ref p))) g (upd H a ob) (uo o i (p :: qs)) := by
    refine R.put hi (by rw [eo]; exact Fr.put (.inr ⟨i, pi⟩)) (fun j nj b hb => ?_) at' (fun b hb => ?_) (fun b hb => ?_) (by rw [← op]; exact R.nd i) (by rw [eo]; exact .ow2 hs)
    · have : b ≠ a := fun z => nj (R.dis j i b hb (z ▸ pi))
      rw [upd_ne this]
    · obtain ⟨x, ex, m⟩ := R.bok b hb
      exact ⟨x, by rw [upd_ne (nb b hb)]; exact ex, m⟩
    · rw [← op] at hb
      exact ⟨R.nB i b hb, .inl hb⟩
  have S' : Stp Z H o (upd H a ob) (uo o i (p :: qs)) := R.put_stp R' (Fr.put (.inr ⟨i, pi⟩)) (fun j b hb => by
    by_cases z : j = i
    · subst z
      rw [op] at hb
      exact (SR.ow2 hs).there b hb
    · have : b ≠ a := fun w => z (R.dis j i b hb (w ▸ pi))
      rw [upd_ne this]; exact R.there hb) fun b hb => by
    rw [← op] at hb
    exact .inl hb
  rw [eo, es] at R'
  rw [eo] at S'
  exact ⟨R', S'⟩
theorem OwnD2.kid {C : Addr → Prop} {K : PySem.W.Frag} {r : Addr} {H : Hp} {p qn : Addr} {qs : List Addr} {d dn : TI.D} {ob : HO} {n : Nat} {q : TI.D} (h : OwnD2 K r H C p qs d) (hk : kidIx d q = some n) (hn : qs[n]? = some qn) (nd : (p :: qs).Nodup) (hC : C qn) (bm : BM C H) (hd : OwnD K r (upd H qn ob) C qn dn) :
    OwnD2 K r (upd H qn ob) C p qs (d.setKid n dn) := by
  have hq : qn ∈ qs := List.mem_of_getElem? hn
  rw [List.nodup_cons] at nd
  have npq : p ≠ qn := fun z => nd.1 (z ▸ hq)
  have f : Fr C H (upd H qn ob) := Fr.put hC
  have k : ∀ a ∈ qs, a ≠ qn → upd H qn ob a = H a := fun a _ z => upd_ne z
  cases h with
  | lst h1 h2 => exact .lst (by rw [upd_ne npq]; exact h1) (OwnL.upd1 hd f bm h2 hn nd.2 k)
  | dK h1 e1 e2 h2 => exact .dK (by rw [upd_ne npq]; exact h1) e1 e2 (OwnL.upd1 hd f bm h2 hn nd.2 k)
  | dT h1 e1 e2 h2 => cases hk
theorem refs_inj : ∀ {a b : List Addr}, a.map V.ref = b.map V.ref → a = b
  | [], [], _ => rfl
  | [], _ :: _, h => by simp at h
  | _ :: _, [], h => by simp at h
  | x :: xs, y :: ys, h => by
    simp only [List.map_cons, List.cons.injEq, V.ref.injEq] at h
    rw [h.1, refs_inj h.2]
theorem ow2_uq {K : PySem.W.Frag} {r : Addr} {H : Hp} {C C' : Addr → Prop} {p : Addr} {qs qs' : List Addr} {d : TI.D} (h : OwnD2 K r H C p qs d) (h' : OwnD2 K r H C' p qs' d) : qs = qs' := by
  cases h with
  | lst h1 _ =>
    cases h' with
    | lst g1 _ => rw [h1] at g1; simp only [Option.some.injEq, HO.lst.injEq] at g1; exact refs_inj g1
  | dK h1 _ e1 _ =>
    cases h' with
    | dK g1 _ e2 _ => rw [h1] at g1; cases g1; exact refs_inj (e1.symm.trans e2)
  | dT h1 _ e1 _ =>
    cases h' with
    | dT g1 _ e2 _ => rw [h1] at g1; cases g1; exact refs_inj (e1.symm.trans e2)
theorem kidL_wr {d q : TI.D} {k : Nat → List TI.D → M Out} {g : G} (w : WrS X Z B W H o E (kidL d q k g)) : ∃ n ys, kidIx d q = some n ∧ d.kids[n]? = some (.lst ys) ∧ WrS X Z B W H o E (k n ys g) := by
  unfold kidL at w
  cases e1 : kidIx d q with
  | none => rw [e1] at w; exact (WrS.stk (g := G0) w).elim
  | some n =>
    rw [e1] at w
    cases e2 : d.kids[n]? with
    | none =>
      replace w : WrS X Z B W H o E ((match d.kids[n]? with
        | some (.lst ys) => k n ys
        | _ => M.stk) g) := w
      rw [e2] at w; exact (WrS.stk (g := G0) w).elim
    | some dn =>
      replace w : WrS X Z B W H o E ((match d.kids[n]? with
        | some (.lst ys) => k n ys
        | _ => M.stk) g) := w
      rw [e2] at w
      cases dn with
      | lst ys => exact ⟨n, ys, rfl, e2, w⟩
      | _ => exact (WrS.stk (g := G0) w).elim
/-- a slot's own child list becomes another -/
theorem kid_wr {i n : Nat} {q : TI.D} {d : TI.D} {p qn : Addr} {qs : List Addr} {vs : List V} {xs : List TI.D} (R : Rel X Z B ρ σ g H o) (e : ρ[i]? = some (.ow2 d)) (s1 : σ[i]? = some (some (.ref p))) (op : o i = p :: qs) (h : OwnD2 X.K Z.r H (Cn B o) p qs d) (hk : kidIx d q = some n) (hn : qs[n]? = some qn)
    (l : DenL X.K Z.r H (Cn B o) vs xs) : Rel X Z B (ρ.set i (.ow2 (d.setKid n (.lst xs)))) σ g (upd H qn (.lst vs)) o ∧ Stp Z H o (upd H qn (.lst vs)) o := by
  have hq : qn ∈ p :: qs := List.mem_cons_of_mem _ (List.mem_of_getElem? hn)
  have hC : Cn B o qn := .inr ⟨i, by rw [op]; exact hq⟩
  have nd : (p :: qs).Nodup := by rw [← op]; exact R.nd i
  refine R.wrS e s1 op hq (OwnD2.kid (q := q) h hk hn nd hC R.cok.bm (.lst upd_same ?_))
  exact DenL.fr (Fr.put hC) R.cok _ _ l
theorem frz1_ow2 {ρ : List Sl} {i j : Nat} {d : TI.D} (h : (frz1 ρ j)[i]? = some (.ow2 d)) : ρ[i]? = some (.ow2 d) := by
  unfold TI.frz1 at h
  have key : ∀ d', (ρ.set j (.val d'))[i]? = some (.ow2 d) → ρ[i]? = some (.ow2 d) := fun d' h => by
    by_cases z : j = i
    · subst z
      by_cases l : j < ρ.length
      · rw [List.getElem?_set_self l] at h; cases h
      · rw [List.set_eq_of_length_le (by omega)] at h; exact h
    · rw [List.getElem?_set_ne z] at h; exact h
  split at h
  · exact key _ h
  · exact key _ h
  · exact h
theorem frz_ow2 : ∀ (vs : List Nat) {ρ : List Sl} {i : Nat} {d : TI.D}, (frz ρ vs)[i]? = some (.ow2 d) → ρ[i]? = some (.ow2 d)
  | [], _, _, _, h => h
  | v :: vs, _, _, _, h => frz1_ow2 (frz_ow2 vs h)
theorem shr_ow2 {vs : List Nat} {b : Bool} {i : Nat} {d : TI.D} (h : (shr ρ vs b)[i]? = some (.ow2 d)) : ρ[i]? = some (.ow2 d) := by
  unfold shr at h
  split at h
  · exact h
  · exact frz_ow2 vs h
theorem apk_wr {i n : Nat} {ys : List TI.D} {q x : TI.D} {d : TI.D} {v : V} {vs : List Nat} {b : Bool} (e : ρ[i]? = some (.ow2 d)) (R : Rel X Z B (shr ρ vs b) σ g H o) (hk : kidIx d q = some n) (hd : d.kids[n]? = some (.lst ys)) (nv : Den X.K Z.r H (Cn B o) v x) (w : WrS X Z B W H o E (apkD (shr ρ vs b) i n ys x g)) :
    ∃ p qs qn us, σ[i]? = some (some (.ref p)) ∧ o i = p :: qs ∧ qs[n]? = some qn ∧ H qn = some (.lst us) ∧ us.length < sizeLine ∧ E.nx σ (upd H qn (.lst (us ++ [v]))) ∧ OwnD2 X.K Z.r H (Cn B o) p qs d := by
  unfold apkD at w
  cases e1 : (shr ρ vs b)[i]? with
  | none => rw [e1] at w; exact (WrS.stk (g := G0) w).elim
  | some s =>
    rw [e1] at w
    cases s with
    | ow2 d1 =>
      have e2 := shr_ow2 e1
      rw [e] at e2
      cases e2
      obtain ⟨c, w⟩ := WrS.grd (show WrS X Z B W H o E (grd (decide (ys.length < line)) (pure (.nx ((shr ρ vs b).set i (.ow2 (d.setKid n (.lst (ys ++ [x]))))))) g) from w)
      have c := of_decide_eq_true c
      rw [line_eq] at c
      obtain ⟨p, qs, s1, op, h⟩ := ow2_slot R e1
      have hkid : ∃ qn, qs[n]? = some qn ∧ OwnD X.K Z.r H (Cn B o) qn (.lst ys) := by
        cases h with
        | lst h1 h2 => exact h2.get hd
        | dK _ _ _ h2 => exact h2.get hd
        | dT _ _ _ h2 => exact h2.get hd
      obtain ⟨qn, q1, q2⟩ := hkid
      cases q2 with
      | lst q3 q4 =>
        rename_i us
        obtain ⟨R', S'⟩ := kid_wr (q := q) (xs := ys ++ [x]) (vs := us ++ [v]) R e1 s1 op h hk q1 (q4.append (.cons nv .nil))
        exact ⟨p, qs, qn, us, s1, op, q1, q3, by rw [q4.length]; exact c, w _ _ _ R' S', h⟩
    | _ => exact (WrS.stk (g := G0) w).elim
theorem st2_wr {i n : Nat} {ys : List TI.D} {q x jj : TI.D} {d : TI.D} {v y : V} {vs : List Nat} {b : Bool} {C : Addr → Prop} (e : ρ[i]? = some (.ow2 d)) (R : Rel X Z B (shr ρ vs b) σ g H o) (hk : kidIx d q = some n) (hd : d.kids[n]? = some (.lst ys)) (nv : Den X.K Z.r H (Cn B o) v x) (ny : Den X.K Z.r H C y jj) (w : WrS X Z B W H o E (st2D (shr ρ vs b) i n ys jj x g)) :
    ∃ p qs qn, σ[i]? = some (some (.ref p)) ∧ qs[n]? = some qn ∧ OwnD2 X.K Z.r H (Cn B o) p qs d ∧ rSetL (.ref qn) y v H (fun H' => E.nx σ H') := by
  unfold st2D at w
  cases e1 : (shr ρ vs b)[i]? with
  | none => rw [e1] at w; exact (WrS.stk (g := G0) w).elim
  | some s =>
    rw [e1] at w
    cases s with
    | ow2 d1 =>
      have e2 := shr_ow2 e1
      rw [e] at e2
      cases e2
      cases jj with
      | int j =>
        obtain rfl := den_int ny
        replace w : WrS X Z B W H o E ((match ixN ys.length j with
          | some m => pure (Out.nx ((shr ρ vs b).set i (.ow2 (d.setKid n (.lst (ys.set m x))))))
          | none => M.stk) g) := w
        cases hm : ixN ys.length j with
        | none => rw [hm] at w; exact (WrS.stk (g := G0) w).elim
        | some m =>
          rw [hm] at w
          obtain ⟨p, qs, s1, op, h⟩ := ow2_slot R e1
          have hkid : ∃ qn, qs[n]? = some qn ∧ OwnD X.K Z.r H (Cn B o) qn (.lst ys) := by
            cases h with
            | lst h1 h2 => exact h2.get hd
            | dK _ _ _ h2 => exact h2.get hd
            | dT _ _ _ h2 => exact h2.get hd
          obtain ⟨qn, q1, q2⟩ := hkid
          cases q2 with
          | lst q3 q4 =>
            rename_i us
            obtain ⟨R', S'⟩ := kid_wr (q := q) (xs := ys.set m x) (vs := us.set m v) R e1 s1 op h hk q1 (q4.set nv m)
            exact ⟨p, qs, qn, s1, q1, h, qn, us, j, m, rfl, rfl, q3, by rw [q4.length]; exact hm, w _ _ _ R' S'⟩
      | _ => exact (WrS.stk (g := G0) w).elim
    | _ => exact (WrS.stk (g := G0) w).elim
end
end TI
set_option Elab.async false
set_option linter.all false
set_option maxRecDepth 100000
set_option maxHeartbeats 8000000
namespace TI
open PySem PySem.Spec PyProof.Rows L2
section
variable {X : Cc} {Z : Spc} {B : Addr → Prop} {W : WX} {ρ : List Sl} {σ : L2.St} {g g2 : G} {H H2 : Hp} {o : Nat → List Addr}
theorem own_of {K : PySem.W.Frag} {r : Addr} {C B' : Addr → Prop} {H : Hp} {p : Addr} {d : D} (n : Den K r H B' (.ref p) d) (ic : isCont d = true) (pk : D.pureL d.kids = true) : OwnD K r H C p d := by
  cases n with
  | lst h1 _ h3 => exact .lst h1 (DenL.pur _ _ pk h3)
  | dK h1 _ e h3 => exact .dK h1 e (DenL.pur _ _ pk h3)
  | dT h1 _ e h3 => exact .dT h1 e (DenL.pur _ _ pk h3)
  | _ => cases ic
/-- the root of what a slot owns is written, one new thing pn among the children -/
theorem Rel.wrN {i : Nat} {p pn : Addr} {qs qs' : List Addr} {d d' : D} {ob : HO} (R : Rel X Z B ρ σ g H o) (R2 : Rel X Z B ρ σ g2 H2 o) (f : Fr Z.F H H2) (e : ρ[i]? = some (.ow2 d)) (hp : σ[i]? = some (some (.ref p))) (op : o i = p :: qs) (np : H pn = none) (sub : ∀ a ∈ qs', a ∈ qs ∨ a = pn) (nd : (p :: qs').Nodup)
    (hs : (∀ {ds : List D}, OwnL X.K Z.r H (Cn B o) qs ds → OwnL X.K Z.r (upd H2 p ob) (Cn B (uo o i (p :: qs'))) qs ds) → OwnD2 X.K Z.r (upd H2 p ob) (Cn B (uo o i (p :: qs'))) p qs' d') :
    Rel X Z B (ρ.set i (.ow2 d')) σ g2 (upd H2 p ob) (uo o i (p :: qs')) ∧ Stp Z H o (upd H2 p ob) (uo o i (p :: qs')) := by
  have hi : i < X.n := by rw [← R.lnr]; exact (List.getElem?_eq_some_iff.mp e).1
  have pi : p ∈ o i := by rw [op]; simp
  have es : σ.set i (some (.ref p)) = σ := by
    obtain ⟨hl, e⟩ := List.getElem?_eq_some_iff.mp hp
    rw [← e]; exact List.set_getElem_self hl
  have nF : ¬ Z.F p := fun z => R.nB i p pi (R.sub p z)
  have at' : Z.At g2 (upd H2 p ob) := Z.loc R2.at' fun b x ff ea => by
    have : b ≠ p := fun z => nF (z ▸ ff)
    rw [upd_ne this]; exact ea
  have nb : ∀ b, B b → b ≠ p := fun b hb z => R.nB i p pi (z ▸ hb)
  have nBn : ¬ B pn := fun z => by
    obtain ⟨x, ex, _⟩ := R.bok pn z
    rw [np] at ex; cases ex
  have same : ∀ j, ∀ a ∈ o j, a ≠ p → upd H2 p ob a = H a := fun j a ha z => by
    obtain ⟨x, ex, _⟩ := R.there ha
    rw [upd_ne z, ex]
    exact f a x ex fun w => R.nB j a ha (R.sub a w)
  have new : ∀ a ∈ p :: qs', ¬ B a ∧ (a ∈ o i ∨ H a = none) := fun a ha => by
    rcases List.mem_cons.mp ha with rfl | ha
    · exact ⟨R.nB i a pi, .inl pi⟩
    · rcases sub a ha with h | rfl
      · have : a ∈ o i := by rw [op]; exact List.mem_cons_of_mem _ h
        exact ⟨R.nB i a this, .inl this⟩
      · exact ⟨nBn, .inr np⟩
  have frC : Fr (Cn B (uo o i (p :: qs'))) H (upd H2 p ob) := (f.mono fun y z => .inl (R.sub y z)).trans (Fr.put (.inr ⟨i, by simp [uo]⟩))
  have inC : ∀ a ob', H a = some ob' → Cn B (uo o i (p :: qs')) a → Cn B o a := fun a ob' ea m => by
    rcases m with m | ⟨l, m⟩
    · exact .inl m
    · by_cases z : l = i
      · subst z
        simp only [uo, if_pos] at m
        rcases (new a m).2 with w | w
        · exact .inr ⟨_, w⟩
        · rw [ea] at w; cases w
      · simp only [uo, if_neg z] at m
        exact .inr ⟨l, m⟩
  have bm : BM (Cn B (uo o i (p :: qs'))) H := fun a ob' ea m => R.cok.bm a ob' ea (inC a ob' ea m)
  have ndo : (p :: qs).Nodup := by rw [← op]; exact R.nd i
  have lift : ∀ {ds : List D}, OwnL X.K Z.r H (Cn B o) qs ds → OwnL X.K Z.r (upd H2 p ob) (Cn B (uo o i (p :: qs'))) qs ds := fun {ds} h =>
    h.mono (fun a ob' ea _ n m => n (inC a ob' ea m)) frC bm fun q hq => same i q (by rw [op]; exact List.mem_cons_of_mem _ hq) fun z => (List.nodup_cons.mp ndo).1 (z ▸ hq)
  have hs' := hs lift
  have R' : Rel X Z B (ρ.set i (.ow2 d')) (σ.set i (some (.ref p))) g2 (upd H2 p ob) (uo o i (p :: qs')) := by
    refine R.put hi frC (fun j nj a ha => same j a ha fun z => nj (R.dis j i a ha (z ▸ pi))) at' (fun b hb => ?_) new nd (.ow2 hs')
    obtain ⟨x, ex, m⟩ := R2.bok b hb
    exact ⟨x, by rw [upd_ne (nb b hb)]; exact ex, m⟩
  have S' : Stp Z H o (upd H2 p ob) (uo o i (p :: qs')) := R.put_stp R' ((f.mono fun y z => .inl z).trans (Fr.put (.inr ⟨i, pi⟩))) (fun j a ha => by
    by_cases z : a = p
    · rw [z]; exact (SR.ow2 hs').there p List.mem_cons_self
    · rw [same j a ha z]; exact R.there ha) fun a ha => (new a ha).2
  rw [es] at R'
  exact ⟨R', S'⟩
theorem nodup_set {pn : Addr} : ∀ {qs : List Addr} (n : Nat), qs.Nodup → pn ∉ qs → (qs.set n pn).Nodup
  | [], _, _, _ => .nil
  | q :: qs, 0, h, m => by
    rw [List.nodup_cons] at h
    simp only [List.mem_cons, not_or] at m
    exact List.nodup_cons.mpr ⟨m.2, h.2⟩
  | q :: qs, n + 1, h, m => by
    rw [List.nodup_cons] at h
    simp only [List.mem_cons, not_or] at m
    refine List.nodup_cons.mpr ⟨fun z => ?_, nodup_set n h.2 m.2⟩
    rcases List.mem_or_eq_of_mem_set z with z | z
    · exact h.1 z
    · exact m.1 z.symm
theorem putK_new {k : Ky} {kvs : List (Key × V)} {ks : List Ky} {v : V} (h : kvs.map (·.1) = ks.map Ky.k) (m : memA k ks = false) : putK kvs k.k v = kvs ++ [(k.k, v)] := by
  unfold putK
  rw [put_any (f := Ky.k) Ky.k_inj h, m]
  rfl
theorem stf_wr {i : Nat} {p pn : Addr} {qs : List Addr} {d d' q x : D} {y : V} {B' C : Addr → Prop} {E : Ends} (R : Rel X Z B ρ σ g H o) (R2 : Rel X Z B ρ σ g2 H2 o) (f : Fr Z.F H H2) (e : ρ[i]? = some (.ow2 d)) (hp : σ[i]? = some (some (.ref p))) (op : o i = p :: qs) (np : H pn = none)
    (n : Den X.K Z.r H2 B' (.ref pn) x) (ic : isCont x = true) (pk : D.pureL x.kids = true) (hl : d.kids.length < line) (ny : Den X.K Z.r H2 C y q) (hk : putKid d q x = some d')
    (w : WrS X Z B W H o E (.ok (.nx (ρ.set i (.ow2 d'))) g2)) : rSetL (.ref p) y (.ref pn) H2 (fun H' => E.nx σ H') ∨ rSetD (.ref p) y (.ref pn) H2 (fun H' => E.nx σ H') := by
  obtain ⟨p2, qs2, s2, op2, h2⟩ := ow2_slot R2 e
  rw [hp] at s2
  cases s2
  rw [op] at op2
  cases op2
  obtain ⟨p1, qs1, s1, op1, h1⟩ := ow2_slot R e
  rw [hp] at s1
  cases s1
  rw [op] at op1
  cases op1
  have ndo : (p :: qs).Nodup := by rw [← op]; exact R.nd i
  have npm : pn ∉ p :: qs := fun z => by
    obtain ⟨ob, eo, _⟩ := R.there (i := i) (a := pn) (by rw [op]; exact z)
    rw [np] at eo; cases eo
  have npp : pn ≠ p := fun z => npm (by rw [z]; simp)
  have npq : pn ∉ qs := fun z => npm (List.mem_cons_of_mem _ z)
  rw [List.nodup_cons] at ndo
  rw [line_eq] at hl
  have own : ∀ {C' : Addr → Prop} {ob : HO}, C' p → BM C' H2 → OwnD X.K Z.r (upd H2 p ob) C' pn x := fun {C' ob} c b => (own_of (C := C') n ic pk).mono (fun _ _ _ _ z => z) (Fr.put c) b (by rw [upd_ne npp])
  have bm : ∀ {qs' : List Addr}, (∀ a ∈ qs', a ∈ qs ∨ a = pn) → BM (Cn B (uo o i (p :: qs'))) H2 := fun {qs'} sub a ob ea m => by
    rcases m with m | ⟨l, m⟩
    · exact R2.bok.bm a ob ea m
    · have go : ∀ l, a ∈ o l → mutO ob = true := fun l m => by
        obtain ⟨ob', e', mm⟩ := R2.there m
        rw [ea] at e'; cases e'; exact mm
      by_cases z : l = i
      · subst z
        simp only [uo, if_pos] at m
        rcases List.mem_cons.mp m with rfl | m
        · exact go l (by rw [op]; simp)
        · rcases sub a m with m | rfl
          · exact go l (by rw [op]; exact List.mem_cons_of_mem _ m)
          · obtain ⟨ob', e', mm⟩ := (own_of (C := B) n ic pk).there
            rw [ea] at e'; cases e'; exact mm
      · simp only [uo, if_neg z] at m
        exact go l m
  have inC : ∀ {qs' : List Addr}, Cn B (uo o i (p :: qs')) p := fun {qs'} => .inr ⟨i, by simp [uo]⟩
  cases h2 with
  | lst k1 k2 =>
    rename_i xs
    cases h1 with
    | lst j1 j2 =>
      cases q with
      | int j =>
        have hk : (ixN xs.length j).map (fun m => D.lst (xs.set m x)) = some d' := hk
        cases hm : ixN xs.length j with
        | none => rw [hm] at hk; cases hk
        | some m =>
          rw [hm] at hk
          cases hk
          obtain rfl := den_int ny
          have sub : ∀ a ∈ qs.set m pn, a ∈ qs ∨ a = pn := fun a ha => List.mem_or_eq_of_mem_set ha
          obtain ⟨R', S'⟩ := R.wrN (qs' := qs.set m pn) (d' := .lst (xs.set m x)) (ob := .lst ((qs.map V.ref).set m (.ref pn))) R2 f e hp op np sub
            (List.nodup_cons.mpr ⟨fun z => by
              rcases sub p z with z | z
              · exact ndo.1 z
              · exact npp z.symm, nodup_set m ndo.2 npq⟩) fun lift => .lst (by rw [upd_same, List.map_set]) ((lift j2).setN (own inC (bm sub)) m)
          exact .inl ⟨p, _, j, m, rfl, rfl, k1, by rw [List.length_map, k2.length]; exact hm, w _ _ _ R' S'⟩
      | _ => cases hk
  | dK k1 k2 k3 k4 =>
    rename_i kvs ks vs
    cases h1 with
    | dK j1 j2 j3 j4 =>
      have hk : ((kyOf q).bind fun k => if memA k ks = true then none else some (D.dK (ks ++ [k]) (vs ++ [x]))) = some d' := hk
      cases ek : kyOf q with
      | none => rw [ek] at hk; cases hk
      | some k =>
        rw [ek] at hk
        have hk : (if memA k ks = true then none else some (D.dK (ks ++ [k]) (vs ++ [x]))) = some d' := hk
        split at hk
        · cases hk
        · rename_i hm
          cases hk
          have hm : memA k ks = false := by simpa using hm
          have sub : ∀ a ∈ qs ++ [pn], a ∈ qs ∨ a = pn := fun a ha => by simpa using ha
          have e1 := putK_new (v := .ref pn) k2 hm
          obtain ⟨R', S'⟩ := R.wrN (qs' := qs ++ [pn]) (d' := .dK (ks ++ [k]) (vs ++ [x])) (ob := .dK (putK kvs k.k (.ref pn))) R2 f e hp op np sub
            (List.nodup_cons.mpr ⟨fun z => by
              rcases sub p z with z | z
              · exact ndo.1 z
              · exact npp z.symm, by
              rw [List.nodup_append]
              exact ⟨ndo.2, by simp, fun a ha b hb => by
                obtain rfl := mem_one hb
                exact fun z => npq (z ▸ ha)⟩⟩) fun lift => .dK upd_same (by rw [e1]; simp [k2]) (by rw [e1]; simp [k3]) ((lift j4).app (own inC (bm sub)))
          refine .inr ⟨p, _, rfl, ?_, w _ _ _ R' S'⟩
          rw [kyOf_den ny ek]
          refine DPut.k k1 ?_
          have l1 := congrArg List.length k3
          rw [List.length_map, List.length_map] at l1
          rw [l1, k4.length]; exact hl
  | dT k1 k2 k3 k4 => cases hk
end
end TI
set_option Elab.async false
set_option linter.all false
set_option maxRecDepth 100000
set_option maxHeartbeats 8000000
namespace TI
open PySem PySem.Spec PyProof.Rows L2
section
variable {X : Cx} {Z : Spc} {W : WX} {k : Nat} {sc : Scope}
theorem bnd_bnd {α β γ : Type} {m : M α} {k : α → M β} {K : β → M γ} {g g' : G} {a : α} (h : m g = .ok a g') : M.bnd (M.bnd m k) K g = M.bnd (k a) K g' := by
  have e : M.bnd m k g = k a g' := by
    unfold M.bnd; rw [h]
  show (match M.bnd m k g with
    | .ok a g' => K a g'
    | .err e g' => .err e g'
    | .stuck => .stuck) = _
  rw [e]; rfl
theorem pset_or {t u : TSet} (h1 : PSet X t) (h2 : PSet X u) : PSet X (fun o i v H Q => t o i v H Q ∨ u o i v H Q) := fun pins s σ H o i v ov iv uu Q I r1 r2 r3 q => by
  rcases q with q | q
  · exact h1 pins s σ H o i v ov iv uu Q I r1 r2 r3 q
  · exact h2 pins s σ H o i v ov iv uu Q I r1 r2 r3 q
theorem lif_wr2 {X : Cc} {B : Addr → Prop} {ρ ρ' : List Sl} {σ : L2.St} {g : G} {H H0 : Hp} {o : Nat → List Addr} {E : Ends} {α : Type} {m : M α} {k : α → M Out} (vs : List Nat) (R : Rel X Z B ρ σ g H o) (S : Stp Z H0 o H o) (h : WrS X Z B W H0 o E (lif m ρ' k g)) :
    Wr Z H (fun a g1 H1 => Rel X Z B ρ σ g1 H1 o ∧ WrS X Z B W H0 o E (k a g1)) (erW X Z (Bx B o vs) W σ) (m g) := by
  unfold lif at h
  cases e : m g with
  | ok a g1 =>
    rw [e] at h
    exact fun H1 f1 a1 => ⟨R.step f1 a1, h⟩
  | err x g1 =>
    rw [e] at h
    exact fun H1 f1 a1 cls dd ea => h σ cls dd H1 a1 (S.fr_mo (f1.mono fun y z => .inl z)) (ea.ban fun a z => .inl z)
  | stuck => rw [e] at h; exact h.elim
theorem asg_sub {o i : Expr} {p : Pos} (h : plainE i = true) (env : Env) : ∀ v, assign (.Subscript o i p) env v = (do
      let ov ← holding [v] (eval o env)
      let iv ← holding [v, ov] (eval i env)
      standAt p
      holding [v, ov, iv] (setItem ov iv v)
      release [v, ov, iv] []) := by
  cases i <;> first | (intro _; rfl) | cases h
theorem few_args {v : Expr} {vs : List Expr} {cp : Pos} {env : Env} (h : ∀ a ∈ v :: vs, plainE a = true) (h3 : vs.length < 20) : ((backTo cp (starEach (v :: vs) env)).all (fun x => !x.1) && (backToKw cp (keywordEach [] env)).all (fun x => x.1.isSome)
          && decide ((v :: vs).length + ([] : List Keyword).length + (if ([] : List Keyword).isEmpty then 0 else 1) < 30)) = true := by
  rw [star_all h]
  have : decide ((v :: vs).length + ([] : List Keyword).length + (if ([] : List Keyword).isEmpty then 0 else 1) < 30) = true := by
    rw [decide_eq_true_eq, List.length_cons]
    show vs.length + 1 + 0 + 0 < 30
    omega
  rw [this]; rfl
theorem wrs_if {X : Cc} {B : Addr → Prop} {H : Hp} {o : Nat → List Addr} {E : Ends} {c : Bool} {a b : M Out} {g : G} (h : WrS X Z B W H o E ((if c = true then a else b) g)) : if c = true then WrS X Z B W H o E (a g) else WrS X Z B W H o E (b g) := by
  cases c <;> exact h
variable (hp : PassesOwn (model X.prog X.w) X.A X.env X.xe) (O : XOk X Z W k sc) (hf : ∀ x, sc.names.lookup x = some .cell → X.fn x = true)
include hp O hf
mutual
theorem st_ps : ∀ (s : St) (a : Stmt), mS X.N sc s a = true → Cov X Z k s.calls s.globs → PS X a (tS (cc X) Z W (exS s))
  | .set n i e, q, h, cv => by
    unfold mS at h
    split at h
    · rename_i x p v pos
      simp only [Bool.and_eq_true] at h
      obtain ⟨h1, h2, h3, h9⟩ := h
      have hi : i < X.N.length := (nm_loc O h1 hf).2.2.2
      refine ps_mono (ps_setA O hf cv h1 h2 h3 h9) fun E σ H ⟨B, ρ, g, o, R, w⟩ => ?_
      show tM (cc X) Z W e.vs e.fresh (ev e) σ H fun v H1 => E.nx (σ.set i (some v)) H1
      refine ⟨Bx B o e.vs, ρ, g, R.pre e.vs, ?_⟩
      rcases n with _ | _ | n
      · simp only [exS] at w
        refine (lif_wr e.vs R w).mono fun d g1 H1 f1 a1 ⟨R1, S1, w1⟩ v n _ => ?_
        obtain ⟨o', R2, S2, hb⟩ := R1.shr e.vs d.pure
        obtain ⟨R3, S3⟩ := R2.setV hi (bx_keep hb (fun z => z) n)
        exact w1 _ _ _ R3 (S1.trans (S2.trans S3))
      · simp only [exS] at w
        refine (lif_wr e.vs R w).mono fun d g1 H1 f1 a1 ⟨R1, S1, w1⟩ v n fs => ?_
        obtain ⟨c, w1⟩ := WrS.grd w1
        simp only [Bool.and_eq_true, decide_eq_true_eq] at c
        obtain ⟨c1, c2, c3⟩ := c
        obtain ⟨pp, rfl, np⟩ := fs.a c1 c2
        obtain ⟨R2, S2⟩ := R.setO hi f1 a1 n np c2 c3
        exact w1 _ _ _ R2 S2
      · simp only [exS] at w
        refine (lif_wr e.vs R w).mono fun d g1 H1 f1 a1 ⟨R1, S1, w1⟩ v n fs => ?_
        obtain ⟨c, w1⟩ := WrS.grd w1
        simp only [Bool.and_eq_true, Bool.or_eq_true, decide_eq_true_eq] at c
        obtain ⟨c1, c2, c3⟩ := c
        obtain ⟨pp, rfl, np⟩ := fs.a c1 c2
        by_cases ke : d.kids.isEmpty = true
        · have k0 : d.kids = [] := by simpa using ke
          obtain ⟨R2, S2⟩ := R.setO2 (p := pp) (qs := []) (d := d) hi f1 a1 (by simpa using np) (by simp) (by
            cases n with
            | lst h1 _ h3 =>
              cases (show _ = [] from k0)
              cases h3
              exact .lst h1 .nil
            | dK h1 _ e h3 =>
              cases (show _ = [] from k0)
              exact .dK h1 e (List.eq_nil_of_length_eq_zero h3.length) .nil
            | dT h1 _ e h3 =>
              cases (show _ = [] from k0)
              exact .dT h1 e (List.eq_nil_of_length_eq_zero h3.length) .nil
            | _ => cases c2)
          exact w1 _ _ _ R2 S2
        · rcases c3 with c3 | ⟨c3, c4, c5⟩
          · exact absurd c3 ke
          · obtain ⟨qs, q1, q2, q3⟩ := fs.b c3 c4 pp rfl
            obtain ⟨R2, S2⟩ := R.setO2 (p := pp) (qs := qs) (d := d) hi f1 a1 (fun a ha => by
              rcases List.mem_cons.mp ha with rfl | ha
              · exact np
              · exact (q3 a ha).1) (List.nodup_cons.mpr ⟨fun z => (q3 pp z).2 rfl, q2⟩) (by
              cases n with
              | lst h1 _ h3 =>
                rw [q1] at h1
                cases h1
                exact .lst q1 (ownL_of h3 c4 c5)
              | dK h1 _ e h3 => rw [q1] at h1; cases h1
              | dT h1 _ e h3 => rw [q1] at h1; cases h1
              | _ => cases c2)
            exact w1 _ _ _ R2 S2
    · exact absurd h Bool.false_ne_true
  | .unp ts e, q, h, cv => by
    unfold mS at h
    split at h
    · rename_i es kk tp v pos
      simp only [Bool.and_eq_true, Bool.not_eq_true'] at h
      obtain ⟨h1, h2, h3, h4⟩ := h
      have pg := pg_of (X := X) (sc := sc) O.nd O.calm (fun x e => by rw [O.sc]; exact e) (fun x e => ⟨by rw [O.sc]; exact e, hf x e⟩) (.tp ts) (.Tuple es kk tp) (by simpa only [mT] using h1)
      refine ps_mono (ps_asg (ex_pe e X W sc v O cv h2) pg (no_swap h3 (some (.Tuple es kk tp)) pos.line X.env) (no_stores h4 _)) fun E σ H ⟨B, ρ, g, o, R, w⟩ => ?_
      show tM (cc X) Z W e.vs e.fresh (ev e) σ H fun v H1 => gT X.K (.tp ts) v σ H1 E.nx
      refine ⟨Bx B o e.vs, ρ, g, R.pre e.vs, ?_⟩
      simp only [exS] at w
      refine (lif_wr e.vs R w).mono fun d g1 H1 f1 a1 ⟨R1, S1, w1⟩ v n _ => ?_
      obtain ⟨o', R2, S2, hb⟩ := R1.shr e.vs d.pure
      rcases pr_bindT (.tp ts) d (shr ρ e.vs d.pure) g1 with ⟨ρ2, eb⟩ | eb
      · replace w1 : WrS (cc X) Z B W H o E ((bindT (.tp ts) d (shr ρ e.vs d.pure) >>= fun r => (pure (Out.nx r) : M Out)) g1) := w1
        have w1 : WrS (cc X) Z B W H o E (M.bnd (bindT (.tp ts) d (shr ρ e.vs d.pure)) (fun r => (pure (Out.nx r) : M Out)) g1) := w1
        unfold M.bnd at w1
        rw [eb] at w1
        exact rel_bindT (N := X.N) (sc := sc) rfl (.tp ts) d v _ σ g1 o' ρ2 g1 (.Tuple es kk tp) _ (by simpa only [mT] using h1) R2 eb (bx_keep hb (fun z => z) n) fun σ' o2 R3 S3 _ => w1 _ _ _ R3 (S1.trans (S2.trans S3))
      · have w1 : WrS (cc X) Z B W H o E (M.bnd (bindT (.tp ts) d (shr ρ e.vs d.pure)) (fun r => (pure (Out.nx r) : M Out)) g1) := w1
        unfold M.bnd at w1
        rw [eb] at w1
        exact w1.elim
    · exact absurd h Bool.false_ne_true
  | .aug i o e, q, h, cv => by unfold mS at h; exact absurd h Bool.false_ne_true
  | .app i e, q, h, cv => by
    unfold mS at h
    split at h
    · rename_i x p nm ap v cp pos
      simp only [Bool.and_eq_true, decide_eq_true_eq] at h
      obtain ⟨rfl, h1, h2, h3⟩ := h
      obtain ⟨n1, n2, n3, n4⟩ := name_vis h1
      have pl : ∀ a ∈ [v], plainE a = true := fun a ha => by
        obtain rfl := mem_one ha
        exact mE_plain h2
      refine ps_mono (ps_expr (pe_bm PySem.F.plainAttrs_list PySem.F.slot_list_append PySem.F.type_list_append mt_append (pe_var n1 (by rw [O.sc]; exact n2) n3 n4) (pa_cons (ex_pe e X W sc v O cv h2) pa_nil (star_cons (mE_plain h2))) rfl (few_args pl (by simp)) h3 (star_cons (mE_plain h2)) rfl) rfl) fun E σ H ⟨B, ρ, g, o, R, w⟩ => ?_
      cases er : ρ[i]? with
      | none => simp only [exS, er] at w; exact (WrS.stk (g := G0) w).elim
      | some s =>
        cases s with
        | own d0 =>
          cases d0 with
          | lst xs =>
            simp only [exS, er] at w
            obtain ⟨p0, s1, s2, s3⟩ := own_slot R er
            refine ⟨_, s1, ?_, ?_⟩
            · cases s3 with
              | lst h4 _ => exact .inl ⟨rfl, _, SqL.of h4⟩
            · refine ⟨Bx B o e.vs, ρ, g, R.pre e.vs, ?_⟩
              refine (lif_wr e.vs R w).mono fun d g1 H1 f1 a1 ⟨R1, S1, w1⟩ v n _ => ?_
              obtain ⟨o', R2, S2, hb⟩ := R1.shr e.vs d.pure
              obtain ⟨p1, vs, e1, e2, e3, e4⟩ := app_wr R2 (bx_keep hb (fun z => z) n) (w1.from (S1.trans S2))
              rw [s1] at e1
              cases e1
              exact ⟨_, _, _, rfl, rfl, e2, e3, e4⟩
          | _ => simp only [exS, er] at w; exact (WrS.stk (g := G0) w).elim
        | _ => simp only [exS, er] at w; exact (WrS.stk (g := G0) w).elim
    · exact absurd h Bool.false_ne_true
  | .sti i kx e, q, h, cv => by
    unfold mS at h
    split at h
    · rename_i x p j sp v pos
      simp only [Bool.and_eq_true] at h
      obtain ⟨h1, h2, h3⟩ := h
      obtain ⟨n1, n2, n3, n4⟩ := name_vis h1
      have hu : X.A.units + 1 < cLine := by have := O.u; omega
      refine ps_mono (ps_asg (ex_pe e X W sc v O cv.l h3) (pg_sub (pe_var n1 (by rw [O.sc]; exact n2) n3 n4) (ex_pe kx X W sc j O cv.r h2) (pset_or set_list (set_dict hu)) (asg_sub (mE_plain h2) _)) (no_swap_sub v (.Name x p) j sp pos.line X.env) (by cases v <;> rfl)) fun E σ H ⟨B, ρ, g, o, R, w⟩ => ?_
      cases er : ρ[i]? with
      | none => simp only [exS, er] at w; exact (WrS.stk (g := G0) w).elim
      | some s =>
        cases s with
        | own d0 =>
          simp only [exS, er] at w
          obtain ⟨p0, s1, s2, s3⟩ := own_slot R er
          refine ⟨Bx B o e.vs, ρ, g, R.pre e.vs, ?_⟩
          refine (lif_wr e.vs R w).mono fun d g1 H1 f1 a1 ⟨R1, S1, w1⟩ v n _ => ?_
          refine ⟨_, s1, ?_⟩
          refine ⟨Bx B o kx.vs, ρ, g1, R1.pre kx.vs, ?_⟩
          refine (lif_wr kx.vs R1 (w1.from S1)).mono fun q g2 H2 f2 a2 ⟨R2, S2, w2⟩ y ny _ => ?_
          obtain ⟨o', R3, S3, hb⟩ := R2.shr e.vs d.pure
          have n' : Den X.K Z.r H2 (Bx B o e.vs) v d := Den.fr (f2.mono fun y z => .inl (R1.sub y z)) R1.bxok _ _ n
          obtain ⟨p1, e1, e2⟩ := sti_wr R3 (bx_keep hb (fun z => z) n') ny (w2.from (S2.trans S3))
          rw [s1] at e1
          cases e1
          exact e2
        | _ => simp only [exS, er] at w; exact (WrS.stk (g := G0) w).elim
    · exact absurd h Bool.false_ne_true
  | .apk i kx e, q, h, cv => by
    unfold mS at h
    split at h
    · rename_i x p j sp nm ap v cp pos
      simp only [Bool.and_eq_true, decide_eq_true_eq] at h
      obtain ⟨rfl, h1, h2, h3, h4⟩ := h
      obtain ⟨n1, n2, n3, n4⟩ := name_vis h1
      have pl : ∀ a ∈ [v], plainE a = true := fun a ha => by
        obtain rfl := mem_one ha
        exact mE_plain h3
      refine ps_mono (ps_expr (pe_bm PySem.F.plainAttrs_list PySem.F.slot_list_append PySem.F.type_list_append mt_append (pe_ix (ixr_ow O.u) (pe_var n1 (by rw [O.sc]; exact n2) n3 n4) (ex_pe kx X W sc j O cv.l h2) (plain_ix (mE_plain h2))) (pa_cons (ex_pe e X W sc v O cv.r h3) pa_nil (star_cons (mE_plain h3))) rfl (few_args pl (by simp)) h4 (star_cons (mE_plain h3)) rfl) rfl) fun E σ H ⟨B, ρ, g, o, R, w⟩ => ?_
      cases er : ρ[i]? with
      | none => simp only [exS, er] at w; exact (WrS.stk (g := G0) w).elim
      | some s =>
        cases s with
        | ow2 d0 =>
          simp only [exS, er] at w
          obtain ⟨p0, qs, s1, op, s3⟩ := ow2_slot R er
          refine ⟨_, s1, ?_⟩
          refine ⟨Bx B o kx.vs, ρ, g, R.pre kx.vs, ?_⟩
          refine (lif_wr kx.vs R w).mono fun q g1 H1 f1 a1 ⟨R1, S1, w1⟩ y ny _ => ?_
          obtain ⟨n, ys, hk, hd, w1⟩ := kidL_wr w1
          obtain ⟨p1, qs1, s1', op1, s31⟩ := ow2_slot R1 er
          rw [s1] at s1'
          cases s1'
          obtain ⟨qn, q1, q2, q3⟩ := kid_at (Q := fun v H2 => tyV X.K "list" v H2 ∧ (tCons (tM (cc X) Z W e.vs e.fresh (ev e)) tNil) σ H2 fun xs H3 => rAppend v xs H3 fun _ H4 => E.nx σ H4) s31 ny hk hd
          refine q3 ⟨?_, ?_⟩
          · cases q2 with
            | lst q4 _ => exact .inl ⟨rfl, _, SqL.of q4⟩
          · refine ⟨Bx B o e.vs, ρ, g1, R1.pre e.vs, ?_⟩
            refine (lif_wr e.vs R1 (w1.from S1)).mono fun d g2 H2 f2 a2 ⟨R2, S2, w2⟩ v n' _ => ?_
            obtain ⟨o', R3, S3, hb⟩ := R2.shr e.vs d.pure
            obtain ⟨p2, qs2, qn2, us, e1, e2, e3, e4, e5, e6, e7⟩ := apk_wr er R3 hk hd (bx_keep hb (fun z => z) n') (w2.from (S2.trans S3))
            rw [s1] at e1
            cases e1
            have op2 : qs2 = qs1 := by
              obtain ⟨pp, qq, z1, z2, z3⟩ := ow2_slot R2 er
              rw [op1] at z2
              cases z2
              exact ow2_uq e7 z3
            subst op2
            rw [q1] at e3
            cases e3
            exact ⟨_, _, _, rfl, rfl, e4, e5, e6⟩
        | _ => simp only [exS, er] at w; exact (WrS.stk (g := G0) w).elim
    · exact absurd h Bool.false_ne_true
  | .stf i kx e, q, h, cv => by
    unfold mS at h
    split at h
    · rename_i x p j sp v pos
      simp only [Bool.and_eq_true] at h
      obtain ⟨h1, h2, h3⟩ := h
      obtain ⟨n1, n2, n3, n4⟩ := name_vis h1
      have hu : X.A.units + 1 < cLine := by have := O.u; omega
      refine ps_mono (ps_asg (ex_pe e X W sc v O cv.l h3) (pg_sub (pe_var n1 (by rw [O.sc]; exact n2) n3 n4) (ex_pe kx X W sc j O cv.r h2) (pset_or set_list (set_dict hu)) (asg_sub (mE_plain h2) _)) (no_swap_sub v (.Name x p) j sp pos.line X.env) (by cases v <;> rfl)) fun E σ H ⟨B, ρ, g, o, R, w⟩ => ?_
      cases er : ρ[i]? with
      | none => simp only [exS, er] at w; exact (WrS.stk (g := G0) w).elim
      | some s =>
        cases s with
        | ow2 d0 =>
          simp only [exS, er] at w
          obtain ⟨p0, qs, s1, op, s3⟩ := ow2_slot R er
          refine ⟨Bx B o e.vs, ρ, g, R.pre e.vs, ?_⟩
          refine (lif_wr e.vs R w).mono fun d g1 H1 f1 a1 ⟨R1, S1, w1⟩ v n fs => ?_
          refine ⟨_, s1, ?_⟩
          refine ⟨Bx B o kx.vs, ρ, g1, R1.pre kx.vs, ?_⟩
          refine (lif_wr2 kx.vs R1 S1 w1).mono fun q g2 H2 f2 a2 ⟨R2, w2⟩ y ny _ => ?_
          obtain ⟨c, w2⟩ := WrS.grd w2
          simp only [Bool.and_eq_true, decide_eq_true_eq] at c
          obtain ⟨c1, c2, c3, c4⟩ := c
          obtain ⟨pn, rfl, np⟩ := fs.a c1 c2
          have n' : Den X.K Z.r H2 (Bx B o e.vs) (.ref pn) d := Den.fr (f2.mono fun y z => .inl (R1.sub y z)) R1.bxok _ _ n
          cases hk : putKid d0 q d with
          | none => rw [hk] at w2; exact (WrS.stk (g := G0) w2).elim
          | some d' =>
            rw [hk] at w2
            exact stf_wr R R2 (f1.trans f2) er s1 op np n' c2 c3 c4 ny hk w2
        | _ => simp only [exS, er] at w; exact (WrS.stk (g := G0) w).elim
    · exact absurd h Bool.false_ne_true
  | .st2 i kx jx e, q, h, cv => by
    unfold mS at h
    split at h
    · rename_i x p kk sp0 jj sp v pos
      simp only [Bool.and_eq_true] at h
      obtain ⟨h1, h2, h3, h4⟩ := h
      obtain ⟨n1, n2, n3, n4⟩ := name_vis h1
      refine ps_mono (ps_asg (ex_pe e X W sc v O cv.l h4) (pg_sub (pe_ix (ixr_ow O.u) (pe_var n1 (by rw [O.sc]; exact n2) n3 n4) (ex_pe kx X W sc kk O cv.r.l h2) (plain_ix (mE_plain h2))) (ex_pe jx X W sc jj O cv.r.r h3) set_list (asg_sub (mE_plain h3) _)) (no_swap_sub v (.Subscript (.Name x p) kk sp0) jj sp pos.line X.env) (by cases v <;> rfl)) fun E σ H ⟨B, ρ, g, o, R, w⟩ => ?_
      cases er : ρ[i]? with
      | none => simp only [exS, er] at w; exact (WrS.stk (g := G0) w).elim
      | some s =>
        cases s with
        | ow2 d0 =>
          simp only [exS, er] at w
          obtain ⟨p0, qs, s1, op, s3⟩ := ow2_slot R er
          refine ⟨Bx B o e.vs, ρ, g, R.pre e.vs, ?_⟩
          refine (lif_wr e.vs R w).mono fun d g1 H1 f1 a1 ⟨R1, S1, w1⟩ v nv _ => ?_
          refine ⟨_, s1, ?_⟩
          refine ⟨Bx B o kx.vs, ρ, g1, R1.pre kx.vs, ?_⟩
          refine (lif_wr kx.vs R1 (w1.from S1)).mono fun q g2 H2 f2 a2 ⟨R2, S2, w2⟩ y ny _ => ?_
          obtain ⟨n, ys, hk, hd, w2⟩ := kidL_wr w2
          obtain ⟨p1, qs1, s1', op1, s31⟩ := ow2_slot R2 er
          rw [s1] at s1'
          cases s1'
          obtain ⟨qn, q1, q2, q3⟩ := kid_at (Q := fun ov H2 => (tM (cc X) Z W jx.vs jx.fresh (ev jx)) σ H2 fun iv H3 => rSetL ov iv v H3 fun H4 => E.nx σ H4) s31 ny hk hd
          refine q3 ⟨Bx B o jx.vs, ρ, g2, R2.pre jx.vs, ?_⟩
          refine (lif_wr jx.vs R2 (w2.from S2)).mono fun jd g3 H3 f3 a3 ⟨R3, S3, w3⟩ z nz _ => ?_
          obtain ⟨o', R4, S4, hb⟩ := R3.shr e.vs d.pure
          have n' : Den X.K Z.r H3 (Bx B o e.vs) v d := Den.fr ((f2.trans f3).mono fun y z => .inl (R1.sub y z)) R1.bxok _ _ nv
          obtain ⟨p2, qs2, qn2, e1, e2, e3, e4⟩ := st2_wr er R4 hk hd (bx_keep hb (fun z => z) n') nz (w3.from (S3.trans S4))
          rw [s1] at e1
          cases e1
          have op2 : qs2 = qs1 := by
            obtain ⟨pp, qq, z1, z2, z3⟩ := ow2_slot R3 er
            rw [op1] at z2
            cases z2
            exact ow2_uq e3 z3
          subst op2
          rw [q1] at e2
          cases e2
          exact e4
        | _ => simp only [exS, er] at w; exact (WrS.stk (g := G0) w).elim
    · exact absurd h Bool.false_ne_true
  | .exp e, q, h, cv => by
    unfold mS at h
    split at h
    · rename_i v pos
      simp only [Bool.and_eq_true] at h
      refine ps_mono (ps_expr (ex_pe e X W sc v O cv h.1) (no_swap h.2 _ _ _)) fun E σ H ⟨B, ρ, g, o, R, w⟩ => ?_
      simp only [exS] at w
      exact ⟨Bx B o e.vs, ρ, g, R.pre e.vs, (lif_wr e.vs R w).mono fun d g1 H1 f1 a1 ⟨R1, S1, w1⟩ v n _ => w1 _ _ _ R1 S1⟩
    · exact absurd h Bool.false_ne_true
  | .ret e, q, h, cv => by
    unfold mS at h
    split at h
    · rename_i v pos
      refine ps_mono (ps_ret (ex_pe e X W sc v O cv h)) fun E σ H ⟨B, ρ, g, o, R, w⟩ => ?_
      simp only [exS] at w
      exact ⟨Bx B o e.vs, ρ, g, R.pre e.vs, (lif_wr e.vs R w).mono fun d g1 H1 f1 a1 ⟨R1, S1, w1⟩ v n _ => w1 v H1 a1 S1.fr (bx_B n)⟩
    · exact absurd h Bool.false_ne_true
  | .ife c a b, q, h, cv => by
    unfold mS at h
    split at h
    · rename_i c' a' b' pos
      simp only [Bool.and_eq_true] at h
      obtain ⟨h1, h2, h3⟩ := h
      refine ps_mono (ps_if (ex_pt c X W sc c' O cv.l h1) (sts_ps a a' h2 cv.r.l) (sts_ps b b' h3 cv.r.r)) fun E σ H ⟨B, ρ, g, o, R, w⟩ => ?_
      simp only [exS] at w
      refine ⟨Bx B o c.vs, ρ, g, R.pre c.vs, (lif_wr c.vs R w).mono fun kb g1 H1 f1 a1 ⟨R1, S1, w1⟩ => ?_⟩
      show if kb = true then _ else _
      cases kb with
      | true =>
        rw [if_pos rfl] at w1 ⊢
        exact ⟨B, ρ, g1, o, R1, w1.from S1⟩
      | false =>
        rw [if_neg Bool.false_ne_true] at w1 ⊢
        exact ⟨B, ρ, g1, o, R1, w1.from S1⟩
    · exact absurd h Bool.false_ne_true
  | .whl c b, q, h, cv => by
    unfold mS at h
    split at h
    · rename_i c' b' pos
      simp only [Bool.and_eq_true] at h
      refine ps_mono (ps_while hp (ex_pt c X W sc c' O cv.l h.1) (sts_ps b b' h.2 cv.r)) fun E σ H ⟨B, ρ, g, o, R, w⟩ => ?_
      simp only [exS] at w
      refine ⟨fun m σ H => ∃ ρ g o, Rel (cc X) Z B ρ σ g H o ∧ WrS (cc X) Z B W H o E (whlL (fun ρ => do asB (← ev c ρ)) (fun ρ => exSs b ρ) m ρ g), ⟨_, ρ, g, o, R, w⟩, ?_⟩
      rintro m σ1 H1 ⟨ρ1, g1, o1, R1, w1⟩
      cases m with
      | zero => exact (WrS.stk (g := G0) w1).elim
      | succ m =>
        rw [whlL] at w1
        refine ⟨Bx B o1 c.vs, ρ1, g1, R1.pre c.vs, (lif_wr c.vs R1 w1).mono fun kb g2 H2 f2 a2 ⟨R2, S2, w2⟩ => ?_⟩
        show if kb = true then _ else _
        cases kb with
        | false =>
          rw [if_neg Bool.false_ne_true] at w2 ⊢
          exact w2 _ _ _ R2 S2
        | true =>
          rw [if_pos rfl] at w2 ⊢
          refine ⟨_, fun σ' H' z => ⟨m, Nat.lt_succ_self m, z⟩, B, ρ1, g2, o1, R2, ?_⟩
          replace w2 := w2.from S2
          have w2 : WrS (cc X) Z B W H2 o1 E (M.bnd (exSs b ρ1) (fun u => match u with
            | .nx ρ' | .ct ρ' => whlL (fun ρ => do asB (← ev c ρ)) (fun ρ => exSs b ρ) m ρ'
            | .bk ρ' => pure (.nx ρ')
            | o => pure o) g2) := w2
          unfold M.bnd at w2
          cases eb : exSs b ρ1 g2 with
          | err x g3 => rw [eb] at w2; exact w2.elim
          | stuck => rw [eb] at w2; exact w2.elim
          | ok u g3 =>
            rw [eb] at w2
            cases u with
            | nx ρ' => exact fun σ' H' o' R' S' => ⟨ρ', g3, o', R', w2.from S'⟩
            | ct ρ' => exact fun σ' H' o' R' S' => ⟨ρ', g3, o', R', w2.from S'⟩
            | bk ρ' => exact w2
            | rt d => exact w2
            | ex e ρ' => exact w2
    · exact absurd h Bool.false_ne_true
  | .for_ tg it b, q, h, cv => by
    unfold mS at h
    split at h
    · rename_i t i' b' pos
      simp only [Bool.and_eq_true] at h
      obtain ⟨h1, h2, h3, h4⟩ := h
      have pg := pg_of (X := X) (sc := sc) O.nd O.calm (fun x e => by rw [O.sc]; exact e) (fun x e => ⟨by rw [O.sc]; exact e, hf x e⟩) tg t h3
      refine ps_mono (ps_for hp O.calm (it_pi it tg X W sc i' t O cv.l h2 h1 (tg_tup h1 h3)) pg (sts_ps b b' h4 cv.r) (mI_fold h2)) fun E σ H ⟨B, ρ, g, o, R, w⟩ => ?_
      simp only [exS] at w
      refine ⟨Bx B o it.vs, ρ, g, R.pre it.vs, (lif_wr it.vs R w).mono fun ds g1 H1 f1 a1 ⟨R1, S1, w1⟩ J wd => ?_⟩
      obtain ⟨o', R2, S2, hb⟩ := R1.frz it.lk
      have WD : WalkD (cc X) Z (Cn B o') H1 J ds := wd (Cn B o') fun a ha => by
        have h := hb a ha
        cases it with
        | rng es => exact .inr rfl
        | _ => exact .inl h
      have wc0 := WD (Cn B o') fun a h => .inl h
      have moC : ∀ a, Mo Z o' a → Cn B o' a := fun a h => by
        rcases h with h | h
        · exact .inl (R.sub a h)
        · exact .inr h
      let Gd : Hp → Prop := fun Hi => Fr (Cn B o') H1 Hi ∧ BOk (Cn B o') Hi
      let Y : Nat → Hp → V → Hp → Prop := fun i Hi x H' => Same Hi H' ∧ ∀ C : Addr → Prop, (∀ a, C a → Cn B o' a ∨ H1 a = none) → Fr C H1 Hi → BOk C Hi → ∃ d, ds[i]? = some d ∧ Den X.K Z.r H' C x d
      have wk : Walk J ds.length Gd Y := ⟨fun i Hi hi gd => wc0.goes i Hi hi gd.1, fun Hi gd => wc0.stops Hi gd.1, fun i Hi x H' hi gd y => ⟨(wc0.yields i Hi x H' hi gd.1 gd.2 y).1, fun C hC fC bC => ((WD C hC).yields i Hi x H' hi fC bC y).2⟩⟩
      let body : D → List Sl → M Out := fun d ρ => do exSs b (← bindT tg d ρ)
      let Pv : Nat → L2.St → Hp → Prop := fun i σi Hi => ∃ ρi gi oi, Rel (cc X) Z B ρi σi gi Hi oi ∧ Stp Z H1 o' Hi oi ∧ WrS (cc X) Z B W H1 o' E (forL body (ds.drop i) ρi gi)
      refine for_it wk Pv ⟨_, g1, o', R2, .refl R2, by rw [List.drop_zero]; exact w1.from (S1.trans S2)⟩ ?_ ?_ ?_
      · rintro i σi Hi _ ⟨ρi, gi, oi, Ri, Si, _⟩
        refine ⟨Si.fr.mono moC, fun a ha => ?_⟩
        rcases ha with ha | ⟨l, ha⟩
        · exact Ri.bok a ha
        · exact Si.mu a (.inr ⟨l, ha⟩)
      · rintro i x σi Hi H' hi ⟨ρi, gi, oi, Ri, Si, wi⟩ ⟨sm, hY⟩
        obtain ⟨d, hd, hx⟩ := hY (fun a => Cn B o' a ∨ Cn B oi a) (fun a ha => by
          rcases ha with ha | ha | ⟨l, ha⟩
          · exact .inl ha
          · exact .inl (.inl ha)
          · rcases Si.lt a (.inr ⟨l, ha⟩) with z | z
            · exact .inl (moC a z)
            · exact .inr z) (Si.fr.mono fun a h => .inl (moC a h)) (fun a ha => by
          rcases ha with (ha | ⟨l, ha⟩) | ha
          · exact Ri.bok a ha
          · exact Si.mu a (.inr ⟨l, ha⟩)
          · exact Ri.cok a ha)
        have hx' : Den X.K Z.r H' (Cn B oi) x d := Den.ban (fun a ob _ _ n m => n (.inr m)) _ _ hx
        have ed : ds.drop i = d :: ds.drop (i + 1) := by
          have hlt := (List.getElem?_eq_some_iff.mp hd).1
          rw [List.drop_eq_getElem_cons hlt, (List.getElem?_eq_some_iff.mp hd).2]
        rw [ed] at wi
        have wi : WrS (cc X) Z B W H1 o' E (M.bnd (M.bnd (bindT tg d ρi) fun r => exSs b r) (fun u => match u with
          | .nx ρ' | .ct ρ' => forL body (ds.drop (i + 1)) ρ'
          | .bk ρ' => pure (.nx ρ')
          | o => pure o) gi) := wi
        have Ri' := Ri.step (sameFr sm) (at_same Z Ri.at' sm)
        have Si' := Si.trans (Ri.stp (sameFr sm) (at_same Z Ri.at' sm))
        rcases pr_bindT tg d ρi gi with ⟨ρ2, eb⟩ | eb
        · refine rel_bindT (N := X.N) (sc := sc) rfl tg d x ρi σi gi oi ρ2 gi t _ h3 Ri' eb hx' fun σ2 o2 R3 S3 _ => ⟨B, ρ2, gi, o2, R3, ?_⟩
          rw [bnd_bnd eb] at wi
          unfold M.bnd at wi
          have S4 := Si'.trans S3
          cases es : exSs b ρ2 gi with
          | err x g3 => rw [es] at wi; exact wi.elim
          | stuck => rw [es] at wi; exact wi.elim
          | ok u g3 =>
            rw [es] at wi
            cases u with
            | nx ρ' => exact fun σ' H'' o'' R' S' => ⟨ρ', g3, o'', R', S4.trans S', wi⟩
            | ct ρ' => exact fun σ' H'' o'' R' S' => ⟨ρ', g3, o'', R', S4.trans S', wi⟩
            | bk ρ' => exact WrS.from wi S4
            | rt d => exact WrS.from wi S4
            | ex e ρ' => exact WrS.from wi S4
        · unfold M.bnd at wi
          rw [eb] at wi
          exact wi.elim
      · rintro σn Hn ⟨ρn, gn, on, Rn, Sn, wn⟩
        rw [List.drop_length] at wn
        exact wn _ _ _ Rn Sn
    · exact absurd h Bool.false_ne_true
  | .brk, q, h, cv => by
    unfold mS at h
    split at h
    · exact ps_mono ps_break fun E σ H ⟨B, ρ, g, o, R, w⟩ => by
        simp only [exS] at w
        exact w _ _ _ R (.refl R)
    · exact absurd h Bool.false_ne_true
  | .cnt, q, h, cv => by
    unfold mS at h
    split at h
    · exact ps_mono ps_continue fun E σ H ⟨B, ρ, g, o, R, w⟩ => by
        simp only [exS] at w
        exact w _ _ _ R (.refl R)
    · exact absurd h Bool.false_ne_true
  | .pas, q, h, cv => by
    unfold mS at h
    split at h
    · exact ps_mono ps_pass fun E σ H ⟨B, ρ, g, o, R, w⟩ => by
        simp only [exS] at w
        exact w _ _ _ R (.refl R)
    · exact absurd h Bool.false_ne_true
theorem sts_ps : ∀ (s : Sts) (a : List Stmt), mSs X.N sc s a = true → Cov X Z k s.calls s.globs → PSs X a (tS (cc X) Z W (exSs s))
  | .nil, [], h, cv => pss_mono pss_nil fun E σ H ⟨B, ρ, g, o, R, w⟩ => by
      simp only [exSs] at w
      exact w _ _ _ R (.refl R)
  | .nil, _ :: _, h, cv => by simp [mSs] at h
  | .cons _ _, [], h, cv => by simp [mSs] at h
  | .cons s ss, a :: as, h, cv => by
    simp only [mSs, Bool.and_eq_true] at h
    refine pss_mono (pss_cons (st_ps s a h.1 cv.l) (sts_ps ss as h.2 cv.r)) fun E σ H ⟨B, ρ, g, o, R, w⟩ => ⟨B, ρ, g, o, R, ?_⟩
    have w : WrS (cc X) Z B W H o E (M.bnd (exS s ρ) (fun u => match u with
      | .nx ρ' => exSs ss ρ'
      | o => pure o) g) := by rw [exSs] at w; exact w
    unfold M.bnd at w
    cases eb : exS s ρ g with
    | err x g3 => rw [eb] at w; exact w.elim
    | stuck => rw [eb] at w; exact w.elim
    | ok u g3 =>
      rw [eb] at w
      cases u with
      | nx ρ' => exact fun σ' H' o' R' S' => ⟨B, ρ', g3, o', R', w.from S'⟩
      | ct ρ' => exact w
      | bk ρ' => exact w
      | rt d => exact w
      | ex e ρ' => exact w
end
end
end TI
set_option Elab.async false
set_option linter.all false
set_option maxRecDepth 100000
set_option maxHeartbeats 8000000
/-! a def keeps what its tree function says -/
namespace TI
open PySem PySem.Spec PyProof.Rows L2
/-- a statement ends, with an exception as one of its ends -/
def NE {α : Type} (m : M α) : Prop := ∀ g e g', m g ≠ .err e g'
theorem NE.ret {α : Type} {a : α} : NE (pure a : M α) := fun g e g' h => by cases h
theorem NE.stk {α : Type} : NE (M.stk : M α) := fun g e g' h => by cases h
theorem NE.grd {α : Type} {c : Bool} {m : M α} (h : NE m) : NE (grd c m) := by
  unfold TI.grd
  split
  · exact h
  · exact .stk
theorem NE.bind {α β : Type} {m : M α} {f : α → M β} (h : NE m) (k : ∀ a, NE (f a)) : NE (m >>= f) := fun g e g' q => by
  have q : M.bnd m f g = .err e g' := q
  unfold M.bnd at q
  cases em : m g with
  | ok a g1 => rw [em] at q; exact k a g1 e g' q
  | err x g1 => exact h g x g1 em
  | stuck => rw [em] at q; cases q
theorem NE.pr {α : Type} {m : M α} (h : Pr m) : NE m := fun g e g' q => by
  rcases h g with ⟨a, h⟩ | h <;> rw [h] at q <;> cases q
theorem NE.lif {α : Type} {m : M α} {ρ : List Sl} {k : α → M Out} (h : ∀ a, NE (k a)) : NE (lif m ρ k) := fun g e g' q => by
  unfold TI.lif at q
  cases em : m g with
  | ok a g1 => rw [em] at q; exact h a g1 e g' q
  | err x g1 => rw [em] at q; cases q
  | stuck => rw [em] at q; cases q
theorem ne_app {ρ : List Sl} {i : Nat} {d : D} : NE (appD ρ i d) := by
  unfold appD
  split <;> first | exact .grd .ret | exact .stk
theorem ne_sti {ρ : List Sl} {i : Nat} {q d : D} : NE (stiD ρ i q d) := by
  unfold stiD
  repeat' split
  all_goals first | exact .grd .ret | exact .ret | exact .stk
theorem ne_whl {c : List Sl → M Bool} {b : List Sl → M Out} (h : ∀ ρ, NE (b ρ)) : ∀ n ρ, NE (whlL c b n ρ)
  | 0, ρ => .stk
  | n + 1, ρ => by
    unfold whlL
    refine .lif fun k => ?_
    split
    · refine .bind (h ρ) fun u => ?_
      cases u with
      | nx ρ' => exact ne_whl h n ρ'
      | ct ρ' => exact ne_whl h n ρ'
      | _ => exact .ret
    · exact .ret
theorem ne_for {b : D → List Sl → M Out} (h : ∀ d ρ, NE (b d ρ)) : ∀ ds ρ, NE (forL b ds ρ)
  | [], ρ => .ret
  | d :: ds, ρ => by
    unfold forL
    refine .bind (h d ρ) fun u => ?_
    cases u with
    | nx ρ' => exact ne_for h ds ρ'
    | ct ρ' => exact ne_for h ds ρ'
    | _ => exact .ret
theorem ne_kid {d q : D} {k : Nat → List D → M Out} (h : ∀ n ys, NE (k n ys)) : NE (kidL d q k) := by
  unfold kidL
  repeat' split
  all_goals first | exact h _ _ | exact .stk
theorem ne_apk {ρ : List Sl} {i n : Nat} {ys : List D} {x : D} : NE (apkD ρ i n ys x) := by
  unfold apkD
  split <;> first | exact .grd .ret | exact .stk
theorem ne_st2 {ρ : List Sl} {i n : Nat} {ys : List D} {q x : D} : NE (st2D ρ i n ys q x) := by
  unfold st2D
  repeat' split
  all_goals first | exact .ret | exact .stk
mutual
theorem ne_exS : ∀ (s : St) (ρ : List Sl), NE (exS s ρ)
  | .set 0 i e, ρ => by unfold exS; exact .lif fun d => .ret
  | .set 1 i e, ρ => by unfold exS; exact .lif fun d => .grd .ret
  | .set (_ + 2) i e, ρ => by unfold exS; exact .lif fun d => .grd .ret
  | .unp ts e, ρ => by unfold exS; exact .lif fun d => .bind (.pr (pr_bindT _ _ _)) fun _ => .ret
  | .aug i o e, ρ => by unfold exS; exact .lif fun d => .ret
  | .app i e, ρ => by
    unfold exS
    split
    · exact .lif fun d => ne_app
    · exact .stk
  | .sti i k e, ρ => by
    unfold exS
    split
    · exact .lif fun d => .lif fun q => ne_sti
    · exact .stk
  | .apk i k e, ρ => by
    unfold exS
    split
    · exact .lif fun d => ne_kid fun n ys => .lif fun x => ne_apk
    · exact .stk
  | .stf i k e, ρ => by
    unfold exS
    split
    · refine .lif fun d => .lif fun q => .grd ?_
      split <;> first | exact .ret | exact .stk
    · exact .stk
  | .st2 i k j e, ρ => by
    unfold exS
    split
    · exact .lif fun d => .lif fun q => ne_kid fun n ys => .lif fun x => ne_st2
    · exact .stk
  | .exp e, ρ => by unfold exS; exact .lif fun d => .ret
  | .ret e, ρ => by unfold exS; exact .lif fun d => .ret
  | .ife c a b, ρ => by
    unfold exS
    refine .lif fun k => ?_
    split
    · exact ne_exSs a ρ
    · exact ne_exSs b ρ
  | .whl c b, ρ => by unfold exS; exact ne_whl (fun ρ => ne_exSs b ρ) _ _
  | .for_ tg it b, ρ => by unfold exS; exact .lif fun ds => ne_for (fun d ρ => .bind (.pr (pr_bindT _ _ _)) fun r => ne_exSs b r) _ _
  | .brk, ρ => by unfold exS; exact .ret
  | .cnt, ρ => by unfold exS; exact .ret
  | .pas, ρ => by unfold exS; exact .ret
theorem ne_exSs : ∀ (s : Sts) (ρ : List Sl), NE (exSs s ρ)
  | .nil, ρ => by unfold exSs; exact .ret
  | .cons s ss, ρ => by
    unfold exSs
    refine .bind (ne_exS s ρ) fun u => ?_
    cases u with
    | nx ρ' => exact ne_exSs ss ρ'
    | _ => exact .ret
end
section
variable {P : Program} {w : World} {K : PySem.W.Frag} {mg : Str → Option Value} {base : Heap} {Z : Spc} {k : Nat}
theorem start_rel {X : Cc} {B : Addr → Prop} {g : G} {H : Hp} {vs : List V} {ds : List D} {N : List Str} (hN : X.n = N.length) (sub : ∀ a, Z.F a → B a) (bok : BOk B H) (a : Z.At g H) (n : DenL X.K Z.r H B vs ds) (hl : vs.length ≤ N.length) :
    Rel X Z B (ds.map Sl.val ++ List.replicate (N.length - ds.length) Sl.no) (L2.start N vs) g H (fun _ => []) where
  sub := sub
  bok := bok
  at' := a
  len := by unfold L2.start; simp; omega
  lnr := by rw [n.length] at hl; simp; omega
  sl := fun i s e => by
    have cb : ∀ a, B a → Cn B (fun _ => []) a := fun a h => .inl h
    by_cases q : i < ds.length
    · rw [List.getElem?_append_left (by simpa using q), List.getElem?_map] at e
      obtain ⟨d, hd⟩ : ∃ d, ds[i]? = some d := ⟨ds[i], List.getElem?_eq_getElem q⟩
      rw [hd] at e
      cases e
      obtain ⟨v, h1, h2⟩ := n.get hd
      refine ⟨some v, ?_, .val (Den.ban (fun a ob _ _ n m => n (by
        rcases m with m | ⟨_, m⟩
        · exact m
        · simp at m)) _ _ h2)⟩
      unfold L2.start
      rw [List.getElem?_append_left (by rw [List.length_map, n.length]; exact q), List.getElem?_map, h1]
      rfl
    · rw [List.getElem?_append_right (by simpa using q)] at e
      have : s = .no := by
        rw [List.getElem?_replicate] at e
        split at e
        · cases e; rfl
        · cases e
      subst this
      have hi : i < N.length := by
        have := (List.getElem?_eq_some_iff.mp e).1
        simp at this; omega
      refine ⟨none, ?_, .no⟩
      unfold L2.start
      rw [List.getElem?_append_right (by rw [List.length_map]; have := n.length; omega), List.getElem?_replicate, if_pos (by rw [List.length_map]; have := n.length; omega)]
  out := fun _ _ => rfl
  dis := fun i j a h => by simp at h
  nd := fun i => .nil
  nB := fun i a h => by simp at h
theorem mo_nil {a : Addr} (h : Mo Z (fun _ => []) a) : Z.F a := by
  rcases h with h | ⟨_, h⟩
  · exact h
  · simp at h
/-- THE THEOREM for a def -/
theorem gfn {x qual : Str} {st : Stmt} {f : Addr} {fd : FuncData} {N ps : List Str} (F : Fun K x qual st f fd) (S : FnScope N ps (defScope st)) (b : Binds K fd ps []) (hm : mg x = some (.ref f)) (fn : Fn) (h1 : fn.n = ps.length) (h2 : fn.m = N.length)
    (hb : mSs N (defScope st) fn.body (defBody st) = true) (bn : ∀ x ∈ bnames, mg x = none) (hc : ∀ p ∈ fn.body.calls, GFn P w K mg base Z k p.1 p.2) (hg : ∀ p ∈ fn.body.globs, ∃ u v, mg p.1 = some u ∧ RelV v u ∧ ∀ H B, Den K Z.r H B v p.2) :
    GFn P w K mg base Z (k + 1) x (run fn) := by
  refine ⟨f, fd, ps, hm, F.kp, b, F.okX S (fun vs H Q E h => h.1) (fun cdv A outer s H vs Q E hr h => ?_), fun ds g h => ?_⟩
  · obtain ⟨hl, B, ds, g, sub, bok, a, n, w'⟩ := h
    let X : Cx := cxOf (L2.CX P w) P w K mg base N qual (defScope st) f cdv A outer s H E
    have O : XOk X Z (fun cls d _ H => E cls d H) k (defScope st) := ⟨rfl, S.nd, rfl, hr, takes_of rfl rfl rfl rfl, bn⟩
    refine ⟨tS (cc X) Z (fun cls d _ H => E cls d H) (exSs fn.body), sts_ps (passes_of rfl) O (fun _ _ => rfl) fn.body (defBody st) hb ⟨hc, hg⟩, ?_⟩
    have hpl : ps.length ≤ N.length := by have := congrArg List.length S.pre; rw [List.length_take] at this; omega
    have R := start_rel (X := cc X) (N := N) rfl sub bok a n (by omega)
    refine ⟨B, _, g, _, R, ?_⟩
    have e0 : ds.length = fn.n := by rw [h1, ← hl]; exact n.length.symm
    unfold run at w'
    rw [if_pos e0] at w'
    have er : ds.map Sl.val ++ List.replicate (fn.m - fn.n) Sl.no = ds.map Sl.val ++ List.replicate (N.length - ds.length) Sl.no := by rw [h2, e0]
    rw [er] at w'
    have w' : Wr Z H _ _ (M.bnd (exSs fn.body (ds.map Sl.val ++ List.replicate (N.length - ds.length) Sl.no)) (fun u => match u with
      | .rt d => pure d
      | .nx _ => pure .non
      | .ex e _ => M.thr e
      | _ => M.stk) g) := w'
    unfold M.bnd at w'
    cases es : exSs fn.body (ds.map Sl.val ++ List.replicate (N.length - ds.length) Sl.no) g with
    | err e g' => rw [es] at w'
                  exact (ne_exSs fn.body _ g e g' es).elim
    | stuck => rw [es] at w'; exact w'.elim
    | ok u g' =>
      rw [es] at w'
      cases u with
      | rt d => exact fun v H' a' f' n' => w' H' (f'.mono fun _ h => mo_nil h) a' v n'
      | nx ρ' => exact fun σ' H' o' R' S' => w' H' (S'.fr.mono fun _ h => mo_nil h) R'.at' _ .non
      | ex e ρ' => exact fun σ' cls dd H' a' f' e' => w' H' (f'.mono fun _ h => mo_nil h) a' cls dd e'
      | bk ρ' => exact w'.elim
      | ct ρ' => exact w'.elim
  · unfold run
    rw [if_neg (by rw [h1]; exact h)]
    rfl
end
end TI
set_option Elab.async false
set_option linter.all false
set_option maxRecDepth 100000
/-! a def of which nothing is said; more room -/
namespace TI
open PySem PySem.Spec PyProof.Rows L2
section
variable {P : Program} {w : World} {K : PySem.W.Frag} {mg : Str → Option Value} {base : Heap} {Z : Spc} {j k : Nat}
theorem GFn.mono {x : Str} {f : Sem} (h : GFn P w K mg base Z j x f) (hk : j ≤ k) : GFn P w K mg base Z k x f := by
  obtain ⟨a, fd, ps, h1, h2, h3, h4, h5⟩ := h
  exact ⟨a, fd, ps, h1, h2, h3, h4.mono hk, h5⟩
theorem gfn_stk {x qual : Str} {st : Stmt} {f : Addr} {fd : FuncData} {N ps : List Str} (F : Fun K x qual st f fd) (S : FnScope N ps (defScope st)) (b : Binds K fd ps []) (hm : mg x = some (.ref f)) : GFn P w K mg base Z 1 x (fun _ => M.stk) :=
  ⟨f, fd, ps, hm, F.kp, b, F.okX S (fun vs H Q E h => h.1) (fun cdv A outer s H vs Q E hr h => by
    obtain ⟨_, _, _, _, _, _, _, _, w'⟩ := h
    exact w'.elim), fun _ _ _ => rfl⟩
/-- what the top has left of a def -/
def FnAt (K : PySem.W.Frag) (mg : Str → Option Value) (x : Str) (st : Stmt) (ps : List Str) : Prop := ∃ f fd, Fun K x x st f fd ∧ Binds K fd ps [] ∧ mg x = some (.ref f)
end
end TI
namespace TI
open PySem PySem.Spec PyProof.Rows L2
theorem fnAt_mk {K : PySem.W.Frag} {mg : Str → Option Value} {h : Heap} (X : K.In h) (G : h.Ns mainGlobals mg) {x : Str} {st : Stmt} {ps : List Str} {f : Addr} {oc : Value} {od an : Option Addr} {osl : Array (Option Value)} {kV doc pm cdv ct : Value}
    (hb : ∀ (kV doc pm : Value) (an : Option Addr) (cdv ct : Value) (us : List Value), us.length = ps.length → bindArgs (PySem.W.fnOf x x (defArgs st) (defBody st) (defScope st) .none kV doc pm an cdv ct) ⟨us, []⟩ = pure (ps.zip us))
    (a : PySem.W.nsIn K mainGlobals x = some (some (.ref f)))
    (l : K.lookup f = some ⟨oc, od, .func (PySem.W.fnOf x x (defArgs st) (defBody st) (defScope st) .none kV doc pm an cdv ct), osl⟩)
    (c : PySem.W.codeIn K cdv x = true) (k : PySem.W.keepIn K (.ref f) = true) : FnAt K mg x st ps :=
  have F := fun_mk (st := st) l c k
  ⟨f, _, F, F.binds hb, PySem.W.mg_of X G a⟩
end TI
set_option Elab.async false
set_option linter.all false
set_option maxRecDepth 100000
set_option maxHeartbeats 4000000
/-! reckoning with terms -/
namespace TI
open PySem L2
theorem rngD_eq (n : Nat) : ∀ lo c : Int, rngD lo c n = (List.range n).map fun k : Nat => D.int (lo + c * k) := by
  induction n with
  | zero => intro lo c; rfl
  | succ n ih =>
    intro lo c
    unfold rngD
    rw [ih, List.range_succ_eq_map, List.map_cons, List.map_map]
    congr 1
    · simp
    · refine List.map_congr_left fun k _ => ?_
      show D.int _ = D.int _
      congr 1
      rw [Int.natCast_succ, Int.mul_add]; omega
theorem rngD0 (n : Nat) : rngD 0 1 n = (List.range n).map fun k : Nat => D.int k := by
  rw [rngD_eq]; simp
theorem smallN {n : Nat} (h : n ≤ line) : smallB (n : Int) = true := by
  unfold smallB line at *
  simp; omega
theorem compL_pure {α β γ : Type} {f : α → M (Option β)} {g : γ → α} (r : γ → Option β) : ∀ (l : List γ), (∀ x ∈ l, f (g x) = pure (r x)) → compL f (l.map g) = pure (l.filterMap r)
  | [], _ => rfl
  | x :: l, h => by
    rw [List.map_cons]
    unfold compL
    rw [h x (by simp), compL_pure r l fun y hy => h y (List.mem_cons_of_mem _ hy)]
    simp only [pure_bind]
    cases e : r x <;> simp [e]
theorem compL_map {α β γ : Type} {f : α → M (Option β)} {g : γ → α} (r : γ → β) {l : List γ} (h : ∀ x ∈ l, f (g x) = pure (some (r x))) : compL f (l.map g) = pure (l.map r) := by
  rw [compL_pure (fun x => some (r x)) l h]; simp
theorem compL_fil {α β γ : Type} {f : α → M (Option β)} {g : γ → α} (c : γ → Bool) (r : γ → β) {l : List γ} (h : ∀ x ∈ l, f (g x) = pure (if c x = true then some (r x) else none)) : compL f (l.map g) = pure ((l.filter c).map r) := by
  rw [compL_pure _ l h]
  congr 1
  induction l with
  | nil => rfl
  | cons x l ih =>
    have ih := ih fun y hy => h y (List.mem_cons_of_mem _ hy)
    cases e : c x <;> simp [e, ih]
/-- a loop by its turns: what holds ahead of turn i -/
theorem forL_inv {b : D → List Sl → M Out} {ds : List D} (I : Nat → List Sl → Prop) {ρ : List Sl} (h0 : I 0 ρ)
    (step : ∀ i (h : i < ds.length) ρ, I i ρ → ∃ ρ', (b ds[i] ρ = pure (.nx ρ') ∨ b ds[i] ρ = pure (.ct ρ')) ∧ I (i + 1) ρ') : ∃ ρ', forL b ds ρ = pure (.nx ρ') ∧ I ds.length ρ' := by
  induction ds generalizing I ρ with
  | nil => exact ⟨ρ, rfl, h0⟩
  | cons d ds ih =>
    obtain ⟨ρ', e, h1⟩ := step 0 (by simp) ρ h0
    obtain ⟨ρ2, e2, h2⟩ := ih (fun i => I (i + 1)) h1 fun i h ρ hi => step (i + 1) (by simpa using h) ρ hi
    refine ⟨ρ2, ?_, h2⟩
    unfold forL
    rcases e with e | e <;> rw [show b d ρ = _ from e] <;> simpa using e2
/-- .. and one that may end ahead of its time -/
theorem forL_ex {b : D → List Sl → M Out} {ds : List D} (I : Nat → List Sl → Prop) (E : Out → Prop) {ρ : List Sl} (h0 : I 0 ρ)
    (step : ∀ i (h : i < ds.length) ρ, I i ρ → ∃ u, b ds[i] ρ = pure u ∧ match u with
      | .nx ρ' | .ct ρ' => I (i + 1) ρ'
      | .bk ρ' => E (.nx ρ')
      | u => E u) : ∃ u, forL b ds ρ = pure u ∧ (E u ∨ ∃ ρ', u = .nx ρ' ∧ I ds.length ρ') := by
  induction ds generalizing I ρ with
  | nil => exact ⟨_, rfl, .inr ⟨ρ, rfl, h0⟩⟩
  | cons d ds ih =>
    obtain ⟨u, e, h1⟩ := step 0 (by simp) ρ h0
    have e : b d ρ = pure u := e
    have go : ∀ ρ', I 1 ρ' → ∃ u, forL b ds ρ' = pure u ∧ (E u ∨ ∃ ρ2, u = .nx ρ2 ∧ I (ds.length + 1) ρ2) := fun ρ' h1 => ih (fun i => I (i + 1)) h1 fun i h ρ hi => step (i + 1) (by simpa using h) ρ hi
    unfold forL
    rw [e]
    cases u with
    | nx ρ' => simpa using go ρ' h1
    | ct ρ' => simpa using go ρ' h1
    | bk ρ' => exact ⟨_, rfl, .inl h1⟩
    | rt d => exact ⟨_, rfl, .inl h1⟩
    | ex e ρ' => exact ⟨_, rfl, .inl h1⟩
theorem whlL_inv {c : List Sl → M Bool} {b : List Sl → M Out} (I : Nat → List Sl → Prop) (E : List Sl → Prop)
    (step : ∀ n ρ, I n ρ → (c ρ = pure false ∧ E ρ) ∨ ∃ ρ' m, c ρ = pure true ∧ (b ρ = pure (.nx ρ') ∨ b ρ = pure (.ct ρ')) ∧ m < n ∧ I m ρ') : ∀ (k n : Nat) (ρ : List Sl), I n ρ → n < k → ∃ ρ', whlL c b k ρ = pure (.nx ρ') ∧ E ρ'
  | 0, n, ρ, _, h => by omega
  | k + 1, n, ρ, h, hk => by
    unfold whlL
    rcases step n ρ h with ⟨e, h⟩ | ⟨ρ', m, e, eb, hm, h⟩
    · rw [e]; exact ⟨ρ, rfl, h⟩
    · rw [e]
      obtain ⟨ρ2, e2, h2⟩ := whlL_inv I E step k m ρ' h (by omega)
      refine ⟨ρ2, ?_, h2⟩
      rcases eb with eb | eb <;> simp [eb, e2]
/-! ### slices and subscripts -/
theorem cutL_from {α : Type} (xs : List α) (k : Nat) : cutL xs (some (k : Int)) none = xs.drop k := by
  unfold cutL
  rw [HT.sIx_nat, HT.sIx_none]
  by_cases h : k ≤ xs.length
  · rw [Nat.min_eq_left h]
    exact List.take_of_length_le (by simp)
  · rw [Nat.min_eq_right (by omega), List.drop_length, List.drop_of_length_le (by omega)]; simp
theorem cutL_to {α : Type} (xs : List α) (k : Nat) : cutL xs none (some (k : Int)) = xs.take k := by
  unfold cutL
  rw [HT.sIx_nat, HT.sIx_none]
  simp only [List.drop_zero, Nat.sub_zero]
  by_cases h : k ≤ xs.length
  · rw [Nat.min_eq_left h]
  · rw [Nat.min_eq_right (by omega), List.take_of_length_le (Nat.le_refl _), List.take_of_length_le (by omega)]
theorem cutL_ft {α : Type} (xs : List α) (k j : Nat) : cutL xs (some (k : Int)) (some (j : Int)) = (xs.drop k).take (j - k) := by
  unfold cutL
  rw [HT.sIx_nat, HT.sIx_nat]
  by_cases h : k ≤ xs.length
  · rw [Nat.min_eq_left h]
    by_cases h2 : j ≤ xs.length
    · rw [Nat.min_eq_left h2]
    · rw [Nat.min_eq_right (by omega), List.take_of_length_le (by simp), List.take_of_length_le (by simp; omega)]
  · rw [Nat.min_eq_right (show xs.length ≤ k by omega), List.drop_length, List.drop_of_length_le (show xs.length ≤ k by omega)]; simp
theorem cutL_part {α : Type} (xs : List α) (k m : Nat) : cutL xs (some (k : Int)) (some ((k : Int) + (m : Int))) = (xs.drop k).take m := by
  rw [← Int.natCast_add, cutL_ft]; congr 1; omega
theorem atI_n {α : Type} {xs : List α} {j : Nat} (h : j < xs.length) : atI xs (j : Int) = some xs[j] := atI_nat (List.getElem?_eq_getElem h)
theorem intsOf_map {γ : Type} (f : γ → Int) : ∀ l : List γ, intsOf (l.map fun x => D.int (f x)) = some (l.map f)
  | [] => rfl
  | x :: l => by show (intsOf (l.map fun x => D.int (f x))).map (f x :: ·) = _; rw [intsOf_map f l]; rfl
theorem strsOf_map {γ : Type} (f : γ → List Nat) : ∀ l : List γ, strsOf (l.map fun x => D.str (f x)) = some (l.map f)
  | [] => rfl
  | x :: l => by show (strsOf (l.map fun x => D.str (f x))).map (f x :: ·) = _; rw [strsOf_map f l]; rfl
theorem pureL_all : ∀ {ds : List D}, (∀ d ∈ ds, d.pure = true) → D.pureL ds = true
  | [], _ => rfl
  | d :: ds, h => by unfold D.pureL; rw [h d (by simp), pureL_all fun x hx => h x (List.mem_cons_of_mem _ hx)]; rfl
theorem pureL_map {γ : Type} (f : γ → D) (l : List γ) (h : ∀ x ∈ l, (f x).pure = true) : D.pureL (l.map f) = true := pureL_all fun d hd => by
  obtain ⟨x, hx, rfl⟩ := List.mem_map.mp hd
  exact h x hx
theorem joinS_nil : ∀ l : List (List Nat), joinS [] l = l.flatten
  | [] => rfl
  | [x] => by simp [joinS]
  | x :: y :: r => by unfold joinS; rw [joinS_nil (y :: r)]; simp
theorem sumLen_flat : ∀ l : List (List Nat), sumLen l = l.flatten.length
  | [] => rfl
  | x :: r => by unfold sumLen; rw [sumLen_flat r]; simp
theorem zipD_map {γ δ : Type} (f : γ → D) (g : δ → D) : ∀ (l : List γ) (k : List δ), zipD (l.map f) (k.map g) = (l.zip k).map fun p => .tup [f p.1, g p.2]
  | [], _ => by cases ‹List δ› <;> rfl
  | _ :: _, [] => rfl
  | x :: l, y :: k => by simp [zipD, zipD_map f g l k]
theorem enum_map {γ : Type} (f : γ → D) : ∀ (l : List γ) (n : Nat), enumFrom' n (l.map f) = (l.zipIdx n).map fun p => .tup [.int (p.2 : Int), f p.1]
  | [], _ => rfl
  | x :: l, n => by
    rw [List.map_cons, List.zipIdx_cons, List.map_cons]
    unfold enumFrom'
    rw [enum_map f l (n + 1)]
/-! ### sorting -/
theorem sortD_map {γ : Type} (f : γ → D) (le : γ → γ → Bool) (l : List γ) (h : ∀ a ∈ l, ∀ b ∈ l, le a b = leD (f a) (f b)) : sortD (l.map f) = (l.mergeSort le).map f :=
  (List.map_mergeSort h).symm
theorem srtOk_map {γ : Type} (f : γ → D) (l : List γ) (s : Nat × List Bool) (h : ∀ x ∈ l, shD (f x) = some s) : srtOk (l.map f) = true := by
  cases l with
  | nil => rfl
  | cons x l =>
    rw [List.map_cons]
    show ((shD (f x)).isSome && (l.map f).all fun e => decide (shD e = shD (f x))) = true
    rw [h x (by simp)]
    simp only [Option.isSome_some, Bool.true_and, List.all_eq_true, List.mem_map]
    rintro d ⟨y, hy, rfl⟩
    rw [h y (List.mem_cons_of_mem _ hy)]; simp
end TI
set_option Elab.async false
set_option linter.all false
set_option maxRecDepth 100000
/-! the well of law k89 (and of its like) -/
namespace TI
open PySem PySem.Spec PyProof.Rows L2
def drawn (cell stir turn : Int) : Int :=
  let one := ((cell % 999999937 + stir * 257 + turn * 104729 + 5) * 69069 + turn * turn * 362437) % 4294967291
  let two := (Builtin.bitXor one (one / 2 ^ (13 : Int).toNat) * 40503 + 977) % 4294967291
  two / 2 ^ (7 : Int).toNat
def pickG (many : Int) : M Int := fun g => match g with
  | [cells, [turn], [stir]] =>
    if 0 < many ∧ many < 1073741824 ∧ 0 ≤ turn ∧ turn < 2 ^ 64 ∧ cells ≠ [] then
      let p := (turn % cells.length).toNat
      let cell := cells.getD p 0
      if 10 ^ 18 ≤ cell ∨ cell ≤ -10 ^ 18 then .ok (cell % many) [cells.set p (cell / many), [turn + 1], [stir]]
      else .ok (drawn cell stir turn % many) [cells, [turn + 1], [stir]]
    else .stuck
  | _ => .stuck
def s__law_pick : Sem := fun ds => match ds with
  | [.wel, .int many] => do pure (.int (← pickG many))
  | _ => M.stk
def wellH (r c : Addr) (cells : List Int) (turn stir : Int) (H : Hp) : Prop :=
  H r = some (.dK [(.inr ("cells" : Str), .ref c), (.inr ("turn" : Str), .int turn), (.inr ("stir" : Str), .int stir)]) ∧ H c = some (.lst (cells.map V.int))
def wellZ (r c : Addr) : Spc where
  r := r
  F := fun a => a = r ∨ a = c
  At := fun g H => ∃ cells turn stir, g = [cells, [turn], [stir]] ∧ wellH r c cells turn stir H
  loc := fun {g H H'} ⟨cells, turn, stir, e, h1, h2⟩ k => ⟨cells, turn, stir, e, k r _ (.inl rfl) h1, k c _ (.inr rfl) h2⟩
  mu := fun {g H} ⟨cells, turn, stir, e, h1, h2⟩ a ha => by
    rcases ha with rfl | rfl
    · exact ⟨_, h1, rfl⟩
    · exact ⟨_, h2, rfl⟩
end TI
set_option Elab.async false
set_option linter.all false
set_option maxRecDepth 100000
set_option maxHeartbeats 4000000
/-! the well of law k89: made and drawn from -/
namespace K89
open PySem PySem.Spec PyProof.Rows L2 TI
def topS (i : Nat) : Stmt := PySem.Challenge.pw_saidbefore_k89_whole_ends_repeats.main.body.getD i (.Pass ⟨0, 0, 0, 0⟩)
def N_pick : List Str := ["well", "many", "turn", "cells", "place", "cell", "one", "two"]
theorem sc_pick : FnScope N_pick ["well", "many"] (defScope (topS 24)) := ⟨rfl, rfl, rfl, by decide +kernel, rfl, by decide +kernel, by decide +kernel⟩
section
variable {P : Program} {w : World} {K : PySem.W.Frag} {mg : Str → Option Value} {base : Heap}
theorem val_cells {c : V} {t s : V} : valV [(.inr ("cells" : Str), c), (.inr ("turn" : Str), t), (.inr ("stir" : Str), s)] (.inr ("cells" : Str) : Key) = some c := by rfl
theorem val_turn {c : V} {t s : V} : valV [(.inr ("cells" : Str), c), (.inr ("turn" : Str), t), (.inr ("stir" : Str), s)] (.inr ("turn" : Str) : Key) = some t := by rfl
theorem val_stir {c : V} {t s : V} : valV [(.inr ("cells" : Str), c), (.inr ("turn" : Str), t), (.inr ("stir" : Str), s)] (.inr ("stir" : Str) : Key) = some s := by rfl
theorem put_turn {c : V} {t s u : V} : putK [(.inr ("cells" : Str), c), (.inr ("turn" : Str), t), (.inr ("stir" : Str), s)] (.inr ("turn" : Str) : Key) u = [(.inr ("cells" : Str), c), (.inr ("turn" : Str), u), (.inr ("stir" : Str), s)] := by rfl
abbrev mInt (e : TE) : TE := tCB (fun xs H Q => (∃ i, xs = [.int i] ∧ Q (.int i) H) ∨ ∃ k, xs = [.bl k] ∧ Q (.int (if k then 1 else 0)) H) (tCons e tNil)
theorem ok_pick {r c : Addr} {f : Addr} {fd : FuncData} (F : Fun K "_law_pick" "_law_pick" (topS 24) f fd) (b : Binds K fd ["well", "many"] []) (mf : mg "_law_pick" = some (.ref f)) (ml : mg "len" = none) (mi : mg "int" = none) : GFn P w K mg base (wellZ r c) 1 "_law_pick" s__law_pick := by
  refine ⟨f, fd, ["well", "many"], mf, F.kp, b, F.okX sc_pick (fun vs H Q E h => h.1) (fun cdv A outer s H vs Q E hr h => ?_), fun ds g h => ?_⟩
  · obtain ⟨hl, B, ds, g, sub, bok, a, n, w'⟩ := h
    have hu := hu_of hr
    refine ⟨_, pss_cons (ps_set (i := 2) sc_pick.nd rfl (.inl rfl) (pe_dget hu (pv 0) pe_str (fun _ _ => rfl)))
      (pss_cons (ps_dput hu (pv 0) pe_str (pe_op op_add (pv 2) pe_int) rfl)
      (pss_cons (ps_set (i := 3) sc_pick.nd rfl (.inl rfl) (pe_dget hu (pv 0) pe_str (fun _ _ => rfl)))
      (pss_cons (ps_set (i := 4) sc_pick.nd rfl (.inl rfl) (pe_op op_mod (pe_callTy call_int1 (by rfl) mi PyProof.Rows.boot_int (pa_cons (pv 2) pa_nil)) (pe_callB call_len_seq (by rfl) ml PySem.boot_len (pa_cons (pv 3) pa_nil))))
      (pss_cons (ps_set (i := 5) sc_pick.nd rfl (.inl rfl) (pe_ix ix_list (pv 3) (pv 4) (fun _ _ => rfl)))
      (pss_cons (ps_if (pw_or (pt_cmpR op_ge (pv 5) (pe_op op_pow pe_int pe_int) (nomark _)) (pw_or1 (pt_cmpR op_le (pv 5) (pe_un un_neg (pe_op op_pow pe_int pe_int)) (nomark _)))).pt
        (pss_cons (ps_asg (pe_op op_fdiv (pv 5) (pv 1)) (pg_sub (pv 3) (pv 4) set_list) rfl)
        (pss_one (ps_ret (pe_op op_mod (pe_callTy call_int1 (by rfl) mi PyProof.Rows.boot_int (pa_cons (pv 5) pa_nil)) (pv 1)))))
        pss_nil)
      (pss_cons (ps_set (i := 6) sc_pick.nd rfl (.inl rfl) (pe_op op_mod (pe_callTy call_int1 (by rfl) mi PyProof.Rows.boot_int (pa_cons
          (pe_op op_add (pe_op op_mul (pe_op op_add (pe_op op_add (pe_op op_add (pe_op op_mod (pe_callTy call_int1 (by rfl) mi PyProof.Rows.boot_int (pa_cons (pv 5) pa_nil)) pe_int)
            (pe_op op_mul (pe_dget hu (pv 0) pe_str (fun _ _ => rfl)) pe_int)) (pe_op op_mul (pv 2) pe_int)) pe_int) pe_int) (pe_op op_mul (pe_op op_mul (pv 2) (pv 2)) pe_int)) pa_nil)) pe_int))
      (pss_cons (ps_set (i := 7) sc_pick.nd rfl (.inl rfl) (pe_op op_mod (pe_callTy call_int1 (by rfl) mi PyProof.Rows.boot_int (pa_cons (pe_op op_add (pe_op op_mul (pe_op op_xor (pv 6) (pe_op op_shr (pv 6) pe_int)) pe_int) pe_int) pa_nil)) pe_int))
      (pss_one (ps_ret (pe_op op_mod (pe_callTy call_int1 (by rfl) mi PyProof.Rows.boot_int (pa_cons (pe_op op_shr (pv 7) pe_int) pa_nil)) (pv 1))))))))))), ?_⟩
    obtain ⟨many, rfl⟩ : ∃ many, ds = [.wel, .int many] := by
      unfold s__law_pick at w'
      split at w'
      · exact ⟨_, rfl⟩
      · exact w'.elim
    cases n with
    | cons n1 n2 =>
    cases n2 with
    | cons n2 n3 =>
    cases n3
    cases n1
    cases n2
    obtain ⟨cells, turn, stir, rfl, h1, h2⟩ := a
    have w' : Wr (wellZ r c) H (fun d x H' => ∀ (v : V), Den K (wellZ r c).r H' B v d → Q v H') _ (M.bnd (pickG many) (fun i => pure (.int i)) [cells, [turn], [stir]]) := w'
    unfold M.bnd pickG at w'
    simp only at w'
    split at w'
    · rename_i e
      split at e
      · rename_i hc
        obtain ⟨hm0, hm1, ht0, ht1, hc0⟩ := hc
        have hlen : 0 < cells.length := List.length_pos_iff.mpr hc0
        have hL : (0 : Int) < (cells.length : Int) := by omega
        have hp0 : 0 ≤ turn % (cells.length : Int) := Int.emod_nonneg _ (by omega)
        have hp1 : turn % (cells.length : Int) < cells.length := Int.emod_lt_of_pos _ hL
        obtain ⟨p, hp⟩ : ∃ p : Nat, turn % (cells.length : Int) = p := ⟨(turn % (cells.length : Int)).toNat, by omega⟩
        have hpl : p < cells.length := by omega
        have ne : r ≠ c := ne_of h1 h2 (by intro z; cases z)
        rw [hp, Int.toNat_natCast] at e
        have hg : cells.getD p 0 = cells[p] := by simp [List.getD, hpl]
        rw [hg] at e
        -- turn
        refine ⟨_, rfl, r, .int turn, rfl, DGet.k (k := .inr ("turn" : Str)) h1, ?_⟩
        refine ⟨_, rfl, _, _, rfl, rfl, _, rfl, r, _, rfl, DPut.k (k := .inr ("turn" : Str)) h1 (by show (3 : Nat) < sizeLine; decide +kernel), ?_⟩
        rw [put_turn]
        have g1 : (upd H r (.dK [(.inr ("cells" : Str), .ref c), (.inr ("turn" : Str), .int (turn + 1)), (.inr ("stir" : Str), .int stir)])) r = some (.dK [(.inr ("cells" : Str), .ref c), (.inr ("turn" : Str), .int (turn + 1)), (.inr ("stir" : Str), .int stir)]) := upd_same
        have g2 : (upd H r (.dK [(.inr ("cells" : Str), .ref c), (.inr ("turn" : Str), .int (turn + 1)), (.inr ("stir" : Str), .int stir)])) c = some (.lst (cells.map V.int)) := by rw [upd_ne ne.symm]; exact h2
        have fr1 : Fr (wellZ r c).F H (upd H r (.dK [(.inr ("cells" : Str), .ref c), (.inr ("turn" : Str), .int (turn + 1)), (.inr ("stir" : Str), .int stir)])) := .put (.inl rfl)
        generalize upd H r (.dK [(.inr ("cells" : Str), .ref c), (.inr ("turn" : Str), .int (turn + 1)), (.inr ("stir" : Str), .int stir)]) = H1 at g1 g2 fr1
        -- cells
        refine ⟨_, rfl, r, .ref c, rfl, DGet.k (k := .inr ("cells" : Str)) g1, ?_⟩
        -- place
        refine ⟨_, rfl, .inl ⟨_, rfl, _, rfl, c, _, rfl, .inl (SqL.of g2), turn, (cells.length : Int), rfl, by rw [List.length_map], hL, ?_⟩⟩
        -- cell
        refine ⟨_, rfl, _, rfl, c, _, _, .int cells[p], rfl, rfl, SqL.of g2, by rw [hp]; exact atI_nat (by simp [hpl]), ?_⟩
        -- great ones
        refine ⟨_, rfl, _, _, rfl, rfl, ⟨by decide, by decide, by decide⟩, _, _, rfl, rfl, _, rfl, ?_⟩
        have great : (10 ^ 18 ≤ cells[p] ∨ cells[p] ≤ -10 ^ 18) → Q (.int (cells[p] % many)) (upd H1 c (.lst ((cells.set p (cells[p] / many)).map V.int))) := fun z => by
          rw [if_pos z] at e
          cases e
          refine w' _ (fr1.trans (.put (.inr rfl))) ⟨_, _, _, rfl, ?_, upd_same⟩ _ (.int _)
          rw [upd_ne ne]; exact g1
        have small : ¬ (10 ^ 18 ≤ cells[p] ∨ cells[p] ≤ -10 ^ 18) → Q (.int (drawn cells[p] stir turn % many)) H1 := fun z => by
          rw [if_neg z] at e
          cases e
          exact w' _ fr1 ⟨_, _, _, rfl, g1, g2⟩ _ (.int _)
        have hix : ixN (cells.map V.int).length (turn % (cells.length : Int)) = some p := by
          rw [hp, List.length_map]
          unfold ixN
          rw [if_pos (by omega), if_pos (by omega)]; simp
        have gset : ∀ x : Int, (cells.map V.int).set p (.int x) = (cells.set p x).map V.int := fun x => by rw [List.map_set]
        have body1 : (10 ^ 18 ≤ cells[p] ∨ cells[p] ≤ -10 ^ 18) → _ := great
        refine ite2 (fun z1 => ?_) (fun z1 => ?_)
        · refine iteT ?_
          refine ⟨_, rfl, _, rfl, _, _, rfl, rfl, ⟨hm0, hm1⟩, _, rfl, _, rfl, c, _, _, p, rfl, rfl, g2, hix, ?_⟩
          refine ⟨_, rfl, .inl ⟨_, rfl, _, rfl, _, _, rfl, rfl, hm0, ?_⟩⟩
          rw [gset]
          exact great (.inl (of_decide_eq_true z1))
        · refine ⟨_, rfl, _, _, rfl, rfl, ⟨by decide, by decide, by decide⟩, _, rfl, _, _, rfl, rfl, _, rfl, ?_⟩
          refine ite2 (fun z2 => ?_) (fun z2 => ?_)
          · refine ⟨_, rfl, _, rfl, _, _, rfl, rfl, ⟨hm0, hm1⟩, _, rfl, _, rfl, c, _, _, p, rfl, rfl, g2, hix, ?_⟩
            refine ⟨_, rfl, .inl ⟨_, rfl, _, rfl, _, _, rfl, rfl, hm0, ?_⟩⟩
            rw [gset]
            exact great (.inr (of_decide_eq_true z2))
          · have z3 : ¬ (10 ^ 18 ≤ cells[p] ∨ cells[p] ≤ -10 ^ 18) := fun z => by
              rcases z with z | z
              · exact z1 (decide_eq_true z)
              · exact z2 (decide_eq_true z)
            -- one
            refine ⟨_, rfl, .inl ⟨_, rfl, _, _, rfl, rfl, (by show (0 : Int) < 999999937; decide), _, rfl, r, .int stir, rfl, DGet.k (k := .inr ("stir" : Str)) g1, _, _, rfl, rfl, .inr ⟨by decide, by decide⟩, _, _, rfl, rfl,
              _, rfl, _, _, rfl, rfl, .inr ⟨by decide, by decide⟩, _, _, rfl, rfl, _, _, rfl, rfl, _, _, rfl, rfl, .inr ⟨by decide, by decide⟩,
              _, rfl, _, rfl, _, _, rfl, rfl, .inl ⟨by omega, by omega⟩, _, _, rfl, rfl, .inr ⟨by decide, by decide⟩, _, _, rfl, rfl,
              .inl ⟨_, rfl, _, _, rfl, rfl, (by show (0 : Int) < 4294967291; decide), ?_⟩⟩⟩
            -- two
            refine ⟨_, rfl, _, rfl, _, _, rfl, rfl, (by show (0 : Int) ≤ 13; decide), _, _, rfl, rfl, _, _, rfl, rfl, .inr ⟨by decide, by decide⟩, _, _, rfl, rfl, .inl ⟨_, rfl, _, _, rfl, rfl, (by show (0 : Int) < 4294967291; decide), ?_⟩⟩
            refine ⟨_, rfl, _, _, rfl, rfl, (by show (0 : Int) ≤ 7; decide), .inl ⟨_, rfl, _, rfl, _, _, rfl, rfl, hm0, ?_⟩⟩
            exact small z3
      · cases e
    · rename_i e
      split at e <;> first | cases e | skip
      all_goals (split at e <;> cases e)
    · exact w'.elim
  · unfold s__law_pick
    split
    · simp at h
    · rfl
def N_well : List Str := ["script", "cells", "cell", "stir"]
theorem sc_well : FnScope N_well ["script"] (defScope (topS 23)) := ⟨rfl, rfl, rfl, by decide +kernel, rfl, by decide +kernel, by decide +kernel⟩
def spWell (K : PySem.W.Frag) : Sp := fun vs H Q _ => ∃ (a : Addr) (ns : List Int), vs = [.ref a] ∧ SqL K H a (ns.map V.int) ∧ ns.length ≤ 63 ∧
  ∀ H' r c cells stir, Same H H' → H r = none → H c = none → cells ≠ [] → wellH r c cells 0 stir H' → Q (.ref r) H'
theorem ok_well {f : Addr} {fd : FuncData} (F : Fun K "_law_well" "_law_well" (topS 23) f fd) (ml : mg "len" = none) (mi : mg "int" = none) : FnOk P w K mg base (L2.CX P w) 1 f fd ["script"] (spWell K) := by
  refine F.okX sc_well (fun vs H Q E h => ?_) (fun cdv A outer s H vs Q E hr h => ?_)
  · obtain ⟨a, ns, rfl, _⟩ := h
    rfl
  · obtain ⟨a, ns, rfl, hS, hl, q⟩ := h
    have hu := hu_of hr
    refine ⟨_, pss_cons (ps_setLc (i := 1) (own := [("cell", 2)]) rfl sc_well.nd rfl rfl (sw_true rfl rfl rfl (by decide +kernel)) (pi_list (pv 0)) (blkOk_by (N := N_well) (sc := defScope (topS 23)) (by decide +kernel))
        (fun _ _ _ _ _ => pg_name (i := 2) sc_well.nd rfl (.inl rfl)) (fun _ _ _ _ _ => pts_nil) (fun _ _ _ _ _ => pe_callTy call_int1 (by rfl) mi PyProof.Rows.boot_int (pa_cons (pv 2) pa_nil)))
      (pss_cons (ps_set (i := 3) sc_well.nd rfl (.inl rfl) (pe_op op_mul pe_int (pe_callB call_len_seq (by rfl) ml PySem.boot_len (pa_cons (pv 1) pa_nil))))
      (pss_cons (ps_for (passes_of rfl) rfl (pi_list (pv 1)) (pg_name (i := 2) sc_well.nd rfl (.inl rfl))
        (pss_one (ps_set (i := 3) sc_well.nd rfl (.inl rfl) (pe_op op_mod (pe_callTy call_int1 (by rfl) mi PyProof.Rows.boot_int (pa_cons (pe_op op_add (pe_op op_mul (pv 3) pe_int) (pv 2)) pa_nil)) pe_int))))
      (pss_cons (ps_if (pt_cmpR op_eq (pe_callB call_len_seq (by rfl) ml PySem.boot_len (pa_cons (pv 1) pa_nil)) pe_int (nomark _)) (pss_one (ps_set (i := 1) sc_well.nd rfl (.inl rfl) (pe_lst (pa_cons pe_int pa_nil)))) pss_nil)
      (pss_one (ps_ret (pe_disp (pps_cons pe_str (pv 1) (pps_cons pe_str pe_int (pps_cons pe_str (pv 3) pps_nil))) rfl rfl (by decide +kernel) (by decide +kernel))))))), ?_⟩
    -- cells
    refine ⟨.ref a, rfl, a, rfl, ⟨_, hS⟩, fun c nc => ?_⟩
    have s1 : ∀ ys, Same H (upd H c (.lst ys)) := fun ys => same_upd nc
    refine lc_list (K := K) (a := a) (xs := ns.map V.int) (fun i H1 => Same H H1 ∧ H1 c = some (.lst ((ns.take i).map V.int))) ⟨s1 _, upd_same⟩ (fun i H1 _ ⟨s, _⟩ => s.seq hS) (fun i x H1 hi ⟨s, e⟩ => ?_) (fun H1 ⟨s, e⟩ => ?_)
    · obtain ⟨z, hz, rfl⟩ : ∃ z, ns[i]? = some z ∧ x = V.int z := by
        rw [List.getElem?_map] at hi
        cases e : ns[i]? with
        | none => rw [e] at hi; cases hi
        | some z => rw [e] at hi; exact ⟨z, rfl, (Option.some.inj hi).symm⟩
      have hl2 : i < ns.length := (List.getElem?_eq_some_iff.mp hz).1
      refine ⟨rfl, _, rfl, .inl ⟨_, rfl, _, e, ?_, fun b o eb => ?_, ?_⟩⟩
      · rw [List.length_map, List.length_take]
        exact Nat.lt_of_le_of_lt (Nat.min_le_left _ _) (small1000 (by omega))
      · rw [upd_ne (ne_of_none eb nc)]; exact s b o eb
      · rw [upd_same, List.take_add_one, hz, List.map_append]; rfl
    · have et : (ns.map V.int).length = ns.length := List.length_map ..
      rw [et, List.take_length] at e
      -- stir
      refine ⟨_, rfl, c, _, rfl, .inl (SqL.of e), _, _, rfl, rfl, .inl ⟨by decide, by decide⟩, ?_⟩
      -- the loop
      refine ⟨_, rfl, c, rfl, ⟨_, SqL.of e⟩, for_list (K := K) (a := c) (xs := ns.map V.int) (fun i σ H2 => ∃ (x : Option V) (t : Int), σ = [some (.ref a), some (.ref c), x, some (.int t)] ∧ Same H H2 ∧ H2 c = some (.lst (ns.map V.int)))
        ⟨none, _, rfl, s, e⟩ (fun i σ H2 _ ⟨x, t, _, _, e2⟩ => SqL.of e2) (fun i x σ H2 hi ⟨x', t, es, s2, e2⟩ => ?_) (fun σ H2 ⟨x', t, es, s2, e2⟩ => ?_)⟩
      · obtain ⟨z, hz, rfl⟩ : ∃ z, ns[i]? = some z ∧ x = V.int z := by
          rw [List.getElem?_map] at hi
          cases e : ns[i]? with
          | none => rw [e] at hi; cases hi
          | some z => rw [e] at hi; exact ⟨z, rfl, (Option.some.inj hi).symm⟩
        subst es
        refine ⟨_, rfl, _, _, rfl, rfl, .inr ⟨by decide, by decide⟩, _, rfl, _, _, rfl, rfl, .inl ⟨_, rfl, _, _, rfl, rfl, (by show (0 : Int) < 999983; decide), ?_⟩⟩
        exact ⟨_, _, rfl, s2, e2⟩
      · subst es
        refine ⟨_, rfl, c, _, rfl, .inl (SqL.of e2), rfl, _, rfl, ?_⟩
        have fin : ∀ (c' : Addr) (cells : List Int) (H3 : Hp), Same H H3 → H c' = none → H3 c' = some (.lst (cells.map V.int)) → cells ≠ [] → ∀ d, H3 d = none → Q (.ref d) (upd (upd H3 d (.dK [])) d (.dK [(.inr ("cells" : Str), .ref c'), (.inr ("turn" : Str), .int 0), (.inr ("stir" : Str), .int t)])) := fun c' cells H3 s3 nc' e3 ne d nd => by
          refine q _ d c' cells t (fun b o eb => ?_) (s3.free nd) nc' ne ⟨upd_same, ?_⟩
          · have : H3 b = some o := s3 b o eb
            rw [upd_ne (ne_of_none this nd), upd_ne (ne_of_none this nd)]; exact this
          · rw [upd_ne (ne_of_none e3 nd), upd_ne (ne_of_none e3 nd)]; exact e3
        refine ite2 (fun z => ?_) (fun z => ?_)
        · refine ⟨by show 1 ≤ sizeLine; decide +kernel, fun c2 nc2 => ?_⟩
          intro d nd
          refine ⟨_, rfl, _, rfl, upd_same, [(.inr ("cells" : Str), .ref c2), (.inr ("turn" : Str), .int 0), (.inr ("stir" : Str), .int t)], rfl, (by show 3 ≤ 15; decide), ?_⟩
          exact fin c2 [0] _ (fun b o eb => by rw [upd_ne (ne_of_none (s2 b o eb) nc2)]; exact s2 b o eb) (s2.free nc2) upd_same (by simp) d nd
        · intro d nd
          refine ⟨_, rfl, _, rfl, upd_same, [(.inr ("cells" : Str), .ref c), (.inr ("turn" : Str), .int 0), (.inr ("stir" : Str), .int t)], rfl, (by show 3 ≤ 15; decide), ?_⟩
          exact fin c ns _ s2 nc e2 (fun h => z (by subst h; rfl)) d nd
end
end K89
set_option Elab.async false
set_option linter.all false
set_option maxRecDepth 100000
/-! the defs of law k89 as terms (written by gen.py) -/
namespace K89
open PySem TI
/-- shared_begin; top 1; calls [] -/
def n_shared_begin : List Str := ["one", "other", "many"]
def f_shared_begin : Fn := ⟨2, 3, (.cons (.set 0 2 (.con (.int 0))) (.cons (.whl (.and (.cons (.cmp .Lt (.var 2) (.blt .min (.cons (.blt .len (.cons (.var 0) .nil)) (.cons (.blt .len (.cons (.var 1) .nil)) .nil)))) (.cons (.cmp .Eq (.sub (.var 0) (.var 2)) (.sub (.var 1) (.var 2))) .nil))) (.cons (.set 0 2 (.bin .Add (.var 2) (.con (.int 1)))) .nil)) (.cons (.ret (.var 2)) .nil)))⟩
def s_shared_begin : Sem := run f_shared_begin
/-- end_order; top 3; calls [] -/
def n_end_order : List Str := ["text", "_", "at"]
def f_end_order : Fn := ⟨1, 3, (.cons (.ret (.blt .tuple (.cons (.comp (.tp (.cons (.nm 1) (.cons (.nm 2) .nil))) (.of (.blt .sorted (.cons (.comp (.nm 2) (.rng (.cons (.blt .len (.cons (.var 0) .nil)) .nil)) .no (.tup (.cons (.slc (.var 0) (.so (.var 2)) .no) (.cons (.var 2) .nil))) [("at", 2)]) .nil))) .no (.var 2) [("_", 1), ("at", 2)]) .nil))) .nil)⟩
def s_end_order : Sem := run f_end_order
/-- order_ranks; top 4; calls ['end_order'] -/
def n_order_ranks : List Str := ["text", "told", "rank", "at"]
def f_order_ranks : Fn := ⟨1, 4, (.cons (.set 1 1 (.bin .Mult (.lst (.cons (.con (.int 0)) .nil)) (.blt .len (.cons (.var 0) .nil)))) (.cons (.for_ (.tp (.cons (.nm 2) (.cons (.nm 3) .nil))) (.enu (.call "end_order" s_end_order (.cons (.var 0) .nil))) (.cons (.sti 1 (.var 3) (.var 2)) .nil)) (.cons (.ret (.blt .tuple (.cons (.var 1) .nil))) .nil)))⟩
def s_order_ranks : Sem := run f_order_ranks
/-- shared_lengths; top 5; calls ['shared_begin', 'end_order'] -/
def n_shared_lengths : List Str := ["text", "order", "one", "other"]
def f_shared_lengths : Fn := ⟨1, 4, (.cons (.set 0 1 (.call "end_order" s_end_order (.cons (.var 0) .nil))) (.cons (.ret (.blt .tuple (.cons (.comp (.tp (.cons (.nm 2) (.cons (.nm 3) .nil))) (.zip (.var 1) (.slc (.var 1) (.so (.con (.int 1))) .no)) .no (.call "shared_begin" s_shared_begin (.cons (.slc (.var 0) (.so (.var 2)) .no) (.cons (.slc (.var 0) (.so (.var 3)) .no) .nil))) [("one", 2), ("other", 3)]) .nil))) .nil))⟩
def s_shared_lengths : Sem := run f_shared_lengths
/-- ends_with_part; top 6; calls ['end_order'] -/
def n_ends_with_part : List Str := ["text", "part", "order", "first", "at", "many"]
def f_ends_with_part : Fn := ⟨2, 6, (.cons (.set 0 2 (.call "end_order" s_end_order (.cons (.var 0) .nil))) (.cons (.set 0 3 (.blt .len (.cons (.comp (.nm 4) (.of (.var 2)) (.so (.cmp .Lt (.slc (.var 0) (.so (.var 4)) (.so (.bin .Add (.var 4) (.blt .len (.cons (.var 1) .nil))))) (.var 1))) (.var 4) [("at", 4)]) .nil))) (.cons (.set 0 5 (.blt .len (.cons (.comp (.nm 4) (.of (.var 2)) (.so (.cmp .Eq (.slc (.var 0) (.so (.var 4)) (.so (.bin .Add (.var 4) (.blt .len (.cons (.var 1) .nil))))) (.var 1))) (.var 4) [("at", 4)]) .nil))) (.cons (.ret (.tup (.cons (.var 3) (.cons (.bin .Add (.var 3) (.var 5)) .nil)))) .nil))))⟩
def s_ends_with_part : Sem := run f_ends_with_part
/-- part_number_by_order; top 7; calls ['shared_lengths'] -/
def n_part_number_by_order : List Str := ["text", "size"]
def f_part_number_by_order : Fn := ⟨1, 2, (.cons (.set 0 1 (.blt .len (.cons (.var 0) .nil))) (.cons (.ret (.bin .Sub (.bin .FloorDiv (.bin .Mult (.var 1) (.bin .Add (.var 1) (.con (.int 1)))) (.con (.int 2))) (.blt .sum (.cons (.call "shared_lengths" s_shared_lengths (.cons (.var 0) .nil)) .nil)))) .nil))⟩
def s_part_number_by_order : Sem := run f_part_number_by_order
/-- repeats_at_least; top 8; calls ['shared_lengths', 'end_order'] -/
def n_repeats_at_least : List Str := ["text", "many", "order", "told", "at", "shared", "part"]
def f_repeats_at_least : Fn := ⟨2, 7, (.cons (.set 0 2 (.call "end_order" s_end_order (.cons (.var 0) .nil))) (.cons (.set 1 3 (.lst .nil)) (.cons (.for_ (.tp (.cons (.nm 4) (.cons (.nm 5) .nil))) (.zip (.var 2) (.call "shared_lengths" s_shared_lengths (.cons (.var 0) .nil))) (.cons (.set 0 6 (.slc (.var 0) (.so (.var 4)) (.so (.bin .Add (.var 4) (.var 1))))) (.cons (.ife (.and (.cons (.cmp .GtE (.var 5) (.var 1)) (.cons (.or (.cons (.cmp .Eq (.blt .len (.cons (.var 3) .nil)) (.con (.int 0))) (.cons (.cmp .NotEq (.sub (.var 3) (.neg (.con (.int 1)))) (.var 6)) .nil))) .nil))) (.cons (.app 3 (.var 6)) .nil) .nil) .nil))) (.cons (.ret (.blt .tuple (.cons (.var 3) .nil))) .nil))))⟩
def s_repeats_at_least : Sem := run f_repeats_at_least
/-- turned_columns; top 9; calls [] -/
def n_turned_columns : List Str := ["text", "rows", "at", "last", "row", "_", "own", "number"]
def f_turned_columns : Fn := ⟨1, 8, (.cons (.set 0 1 (.blt .sorted (.cons (.comp (.nm 2) (.rng (.cons (.blt .len (.cons (.var 0) .nil)) .nil)) .no (.tup (.cons (.bin .Add (.slc (.var 0) (.so (.var 2)) .no) (.slc (.var 0) .no (.so (.var 2)))) (.cons (.var 2) .nil))) [("at", 2)]) .nil))) (.cons (.set 0 3 (.met .join (.con (.str "")) (.cons (.comp (.tp (.cons (.nm 4) (.cons (.nm 5) .nil))) (.of (.var 1)) .no (.sub (.var 4) (.neg (.con (.int 1)))) [("row", 4), ("_", 5)]) .nil))) (.cons (.set 0 6 (.comp (.tp (.cons (.nm 7) (.cons (.tp (.cons (.nm 5) (.cons (.nm 2) .nil))) .nil))) (.enu (.var 1)) (.so (.cmp .Eq (.var 2) (.con (.int 0)))) (.var 7) [("number", 7), ("_", 5), ("at", 2)])) (.cons (.ret (.tup (.cons (.var 3) (.cons (.ite (.cmp .Gt (.blt .len (.cons (.var 6) .nil)) (.con (.int 0))) (.sub (.var 6) (.con (.int 0))) (.con (.int 0))) .nil)))) .nil))))⟩
def s_turned_columns : Sem := run f_turned_columns
/-- text_of_columns; top 10; calls [] -/
def n_text_of_columns : List Str := ["last", "number", "order", "_", "at", "sign", "told"]
def f_text_of_columns : Fn := ⟨2, 7, (.cons (.set 0 2 (.comp (.tp (.cons (.nm 3) (.cons (.nm 4) .nil))) (.of (.blt .sorted (.cons (.comp (.tp (.cons (.nm 4) (.cons (.nm 5) .nil))) (.enu (.var 0)) .no (.tup (.cons (.var 5) (.cons (.var 4) .nil))) [("at", 4), ("sign", 5)]) .nil))) .no (.var 4) [("_", 3), ("at", 4)])) (.cons (.set 1 6 (.lst .nil)) (.cons (.set 0 4 (.var 1)) (.cons (.for_ (.nm 3) (.of (.var 0)) (.cons (.set 0 4 (.sub (.var 2) (.var 4))) (.cons (.app 6 (.sub (.var 0) (.var 4))) .nil))) (.cons (.ret (.met .join (.con (.str "")) (.cons (.var 6) .nil))) .nil)))))⟩
def s_text_of_columns : Sem := run f_text_of_columns
/-- places_of; top 12; calls [] -/
def n_places_of : List Str := ["part", "text", "last", "at"]
def f_places_of : Fn := ⟨2, 4, (.cons (.set 0 2 (.bin .Sub (.blt .len (.cons (.var 1) .nil)) (.blt .len (.cons (.var 0) .nil)))) (.cons (.ret (.blt .tuple (.cons (.comp (.nm 3) (.rng (.cons (.bin .Add (.var 2) (.con (.int 1))) .nil)) (.so (.cmp .Eq (.slc (.var 1) (.so (.var 3)) (.so (.bin .Add (.var 3) (.blt .len (.cons (.var 0) .nil))))) (.var 0))) (.var 3) [("at", 3)]) .nil))) .nil))⟩
def s_places_of : Sem := run f_places_of
/-- place_count; top 13; calls ['places_of'] -/
def n_place_count : List Str := ["part", "text"]
def f_place_count : Fn := ⟨2, 2, (.cons (.ret (.blt .len (.cons (.call "places_of" s_places_of (.cons (.var 0) (.cons (.var 1) .nil))) .nil))) .nil)⟩
def s_place_count : Sem := run f_place_count
/-- _shared_lengths; top 15; calls [] -/
def n__shared_lengths : List Str := ["one", "other", "rows", "_", "at", "place"]
def f__shared_lengths : Fn := ⟨2, 6, (.cons (.set 2 2 (.comp (.nm 3) (.rng (.cons (.bin .Add (.blt .len (.cons (.var 0) .nil)) (.con (.int 1))) .nil)) .no (.bin .Mult (.lst (.cons (.con (.int 0)) .nil)) (.bin .Add (.blt .len (.cons (.var 1) .nil)) (.con (.int 1)))) [("_", 3)])) (.cons (.for_ (.nm 4) (.rng (.cons (.bin .Sub (.blt .len (.cons (.var 0) .nil)) (.con (.int 1))) (.cons (.neg (.con (.int 1))) (.cons (.neg (.con (.int 1))) .nil)))) (.cons (.for_ (.nm 5) (.rng (.cons (.bin .Sub (.blt .len (.cons (.var 1) .nil)) (.con (.int 1))) (.cons (.neg (.con (.int 1))) (.cons (.neg (.con (.int 1))) .nil)))) (.cons (.ife (.cmp .Eq (.sub (.var 0) (.var 4)) (.sub (.var 1) (.var 5))) (.cons (.st2 2 (.var 4) (.var 5) (.bin .Add (.sub (.sub (.var 2) (.bin .Add (.var 4) (.con (.int 1)))) (.bin .Add (.var 5) (.con (.int 1)))) (.con (.int 1)))) .nil) .nil) .nil)) .nil)) (.cons (.ret (.var 2)) .nil)))⟩
def s__shared_lengths : Sem := run f__shared_lengths
/-- longest_repeat; top 16; calls ['_shared_lengths'] -/
def n_longest_repeat : List Str := ["text", "best", "at", "row", "many", "part"]
def f_longest_repeat : Fn := ⟨1, 6, (.cons (.set 0 1 (.con (.str ""))) (.cons (.for_ (.tp (.cons (.nm 2) (.cons (.nm 3) .nil))) (.enu (.call "_shared_lengths" s__shared_lengths (.cons (.var 0) (.cons (.var 0) .nil)))) (.cons (.set 0 4 (.mxd (.slc (.var 3) (.so (.bin .Add (.var 2) (.con (.int 1)))) .no) 0)) (.cons (.set 0 5 (.slc (.var 0) (.so (.var 2)) (.so (.bin .Add (.var 2) (.var 4))))) (.cons (.ife (.or (.cons (.cmp .Gt (.var 4) (.blt .len (.cons (.var 1) .nil))) (.cons (.and (.cons (.cmp .Eq (.var 4) (.blt .len (.cons (.var 1) .nil))) (.cons (.cmp .Lt (.var 5) (.var 1)) .nil))) .nil))) (.cons (.set 0 1 (.var 5)) .nil) .nil) .nil)))) (.cons (.ret (.var 1)) .nil)))⟩
def s_longest_repeat : Sem := run f_longest_repeat
/-- repeat_length; top 17; calls ['longest_repeat'] -/
def n_repeat_length : List Str := ["text"]
def f_repeat_length : Fn := ⟨1, 1, (.cons (.ret (.blt .len (.cons (.call "longest_repeat" s_longest_repeat (.cons (.var 0) .nil)) .nil))) .nil)⟩
def s_repeat_length : Sem := run f_repeat_length
/-- unlike_parts; top 18; calls [] -/
def n_unlike_parts : List Str := ["text", "many", "at"]
def f_unlike_parts : Fn := ⟨2, 3, (.cons (.ret (.blt .tuple (.cons (.ssc (.nm 2) (.rng (.cons (.bin .Add (.bin .Sub (.blt .len (.cons (.var 0) .nil)) (.var 1)) (.con (.int 1))) .nil)) .no (.slc (.var 0) (.so (.var 2)) (.so (.bin .Add (.var 2) (.var 1)))) [("at", 2)]) .nil))) .nil)⟩
def s_unlike_parts : Sem := run f_unlike_parts
/-- part_number; top 19; calls ['unlike_parts'] -/
def n_part_number : List Str := ["text", "many"]
def f_part_number : Fn := ⟨1, 2, (.cons (.ret (.blt .sum (.cons (.comp (.nm 1) (.rng (.cons (.con (.int 1)) (.cons (.bin .Add (.blt .len (.cons (.var 0) .nil)) (.con (.int 1))) .nil))) .no (.blt .len (.cons (.call "unlike_parts" s_unlike_parts (.cons (.var 0) (.cons (.var 1) .nil))) .nil)) [("many", 1)]) .nil))) .nil)⟩
def s_part_number : Sem := run f_part_number
/-- gram_places; top 21; calls [] -/
def n_gram_places : List Str := ["text", "many", "rows", "at", "part"]
def f_gram_places : Fn := ⟨2, 5, (.cons (.set 1 2 (.dic false)) (.cons (.for_ (.nm 3) (.rng (.cons (.bin .Add (.bin .Sub (.blt .len (.cons (.var 0) .nil)) (.var 1)) (.con (.int 1))) .nil)) (.cons (.set 0 4 (.slc (.var 0) (.so (.var 3)) (.so (.bin .Add (.var 3) (.var 1))))) (.cons (.sti 2 (.var 4) (.bin .Add (.met .get (.var 2) (.cons (.var 4) (.cons (.tup .nil) .nil))) (.tup (.cons (.var 3) .nil)))) .nil))) (.cons (.ret (.blt .tuple (.cons (.comp (.nm 4) (.of (.blt .sorted (.cons (.var 2) .nil))) .no (.tup (.cons (.var 4) (.cons (.sub (.var 2) (.var 4)) .nil))) [("part", 4)]) .nil))) .nil)))⟩
def s_gram_places : Sem := run f_gram_places
-- _law_well: by hand; top 23; names ['script', 'cells', 'cell', 'stir']
-- _law_pick: by hand; top 24; names ['well', 'many', 'turn', 'cells', 'place', 'cell', 'one', 'two']
/-- _law_alike; top 25; calls ['_law_alike'] -/
def n__law_alike : List Str := ["told", "due", "k"]
def f__law_alike (s__law_alike : Sem) : Fn := ⟨2, 3, (.cons (.ife (.cmp .Is (.var 1) (.con .none)) (.cons (.ret (.cmp .Is (.var 0) (.con .none))) .nil) .nil) (.cons (.ife (.isi (.var 1) [.bool] true) (.cons (.ret (.and (.cons (.isi (.var 0) [.bool] true) (.cons (.cmp .Eq (.var 0) (.var 1)) .nil)))) .nil) .nil) (.cons (.ife (.isi (.var 1) [.int] true) (.cons (.ret (.and (.cons (.isi (.var 0) [.int] true) (.cons (.nt (.isi (.var 0) [.bool] true)) (.cons (.cmp .Eq (.var 0) (.var 1)) .nil))))) .nil) .nil) (.cons (.ife (.isi (.var 1) [.str] true) (.cons (.ret (.and (.cons (.isi (.var 0) [.str] true) (.cons (.cmp .Eq (.var 0) (.var 1)) .nil)))) .nil) .nil) (.cons (.ife (.and (.cons (.isi (.var 1) [.tuple] true) (.cons (.nt (.isi (.var 0) [.tuple] true)) .nil))) (.cons (.ret (.con (.bool false))) .nil) .nil) (.cons (.ife (.and (.cons (.isi (.var 1) [.list] true) (.cons (.nt (.isi (.var 0) [.list] true)) .nil))) (.cons (.ret (.con (.bool false))) .nil) .nil) (.cons (.ife (.or (.cons (.nt (.isi (.var 1) [.tuple, .list] false)) (.cons (.cmp .NotEq (.blt .len (.cons (.var 0) .nil)) (.blt .len (.cons (.var 1) .nil))) .nil))) (.cons (.ret (.con (.bool false))) .nil) .nil) (.cons (.for_ (.nm 2) (.rng (.cons (.blt .len (.cons (.var 1) .nil)) .nil)) (.cons (.ife (.nt (.call "_law_alike" s__law_alike (.cons (.sub (.var 0) (.var 2)) (.cons (.sub (.var 1) (.var 2)) .nil)))) (.cons (.ret (.con (.bool false))) .nil) .nil) .nil)) (.cons (.ret (.con (.bool true))) .nil)))))))))⟩
def s__law_alike : Nat → Sem
  | 0 => fun _ => M.stk
  | n + 1 => run (f__law_alike (s__law_alike n))
/-- _law_signs; top 26; calls ['_law_pick'] -/
def n__law_signs : List Str := ["well", "signs", "kind", "k"]
def f__law_signs : Fn := ⟨1, 4, (.cons (.set 0 1 (.con (.str " !\"#$&'()*+,-./0123456789:;<=>?@ABCDEFGHIJKLMNOPQRSTUVWXYZ[\\]^_`abcdefghijklmnopqrstuvwxyz{|}~"))) (.cons (.set 0 2 (.call "_law_pick" s__law_pick (.cons (.var 0) (.cons (.con (.int 4)) .nil)))) (.cons (.ife (.cmp .Eq (.var 2) (.con (.int 0))) (.cons (.ret (.met .join (.con (.str "")) (.cons (.comp (.nm 3) (.rng (.cons (.con (.int 3)) .nil)) .no (.sub (.var 1) (.call "_law_pick" s__law_pick (.cons (.var 0) (.cons (.con (.int 94)) .nil)))) [("k", 3)]) .nil))) .nil) .nil) (.cons (.ret (.sub (.lst (.cons (.con (.str "ab")) (.cons (.con (.str "abc")) (.cons (.con (.str "abcd")) .nil)))) (.bin .Sub (.var 2) (.con (.int 1))))) .nil))))⟩
def s__law_signs : Sem := run f__law_signs
/-- _law_text; top 27; calls ['_law_pick'] -/
def n__law_text : List Str := ["well", "signs", "size", "text", "lap", "first", "part", "k"]
def f__law_text : Fn := ⟨3, 8, (.cons (.set 0 3 (.con (.str ""))) (.cons (.for_ (.nm 4) (.rng (.cons (.var 2) .nil)) (.cons (.ife (.cmp .GtE (.blt .len (.cons (.var 3) .nil)) (.var 2)) (.cons (.brk) .nil) .nil) (.cons (.ife (.or (.cons (.cmp .Eq (.blt .len (.cons (.var 3) .nil)) (.con (.int 0))) (.cons (.cmp .Gt (.call "_law_pick" s__law_pick (.cons (.var 0) (.cons (.con (.int 3)) .nil))) (.con (.int 0))) .nil))) (.cons (.set 0 3 (.bin .Add (.var 3) (.sub (.var 1) (.call "_law_pick" s__law_pick (.cons (.var 0) (.cons (.blt .len (.cons (.var 1) .nil)) .nil)))))) .nil) (.cons (.set 0 5 (.call "_law_pick" s__law_pick (.cons (.var 0) (.cons (.blt .len (.cons (.var 3) .nil)) .nil)))) (.cons (.set 0 6 (.slc (.var 3) (.so (.var 5)) (.so (.bin .Add (.bin .Add (.var 5) (.con (.int 1))) (.call "_law_pick" s__law_pick (.cons (.var 0) (.cons (.con (.int 4)) .nil))))))) (.cons (.ife (.cmp .Eq (.call "_law_pick" s__law_pick (.cons (.var 0) (.cons (.con (.int 4)) .nil))) (.con (.int 0))) (.cons (.set 0 6 (.met .join (.con (.str "")) (.cons (.comp (.nm 7) (.rng (.cons (.blt .len (.cons (.var 6) .nil)) .nil)) .no (.sub (.var 6) (.bin .Sub (.bin .Sub (.blt .len (.cons (.var 6) .nil)) (.con (.int 1))) (.var 7))) [("k", 7)]) .nil))) .nil) .nil) (.cons (.set 0 3 (.slc (.bin .Add (.var 3) (.var 6)) .no (.so (.var 2)))) .nil))))) .nil))) (.cons (.ret (.var 3)) .nil)))⟩
def s__law_text : Sem := run f__law_text
/-- _law_shared; top 28; calls [] -/
def n__law_shared : List Str := ["one", "other", "told", "k"]
def f__law_shared : Fn := ⟨2, 4, (.cons (.set 0 2 (.con (.int 0))) (.cons (.for_ (.nm 3) (.rng (.cons (.blt .min (.cons (.blt .len (.cons (.var 0) .nil)) (.cons (.blt .len (.cons (.var 1) .nil)) .nil))) .nil)) (.cons (.ife (.cmp .NotEq (.sub (.var 0) (.var 3)) (.sub (.var 1) (.var 3))) (.cons (.brk) .nil) .nil) (.cons (.set 0 2 (.bin .Add (.var 3) (.con (.int 1)))) .nil))) (.cons (.ret (.var 2)) .nil)))⟩
def s__law_shared : Sem := run f__law_shared
/-- _law_order; top 29; calls [] -/
def n__law_order : List Str := ["text", "rows", "k", "row"]
def f__law_order : Fn := ⟨1, 4, (.cons (.set 0 1 (.blt .sorted (.cons (.comp (.nm 2) (.rng (.cons (.blt .len (.cons (.var 0) .nil)) .nil)) .no (.tup (.cons (.slc (.var 0) (.so (.var 2)) .no) (.cons (.var 2) .nil))) [("k", 2)]) .nil))) (.cons (.ret (.comp (.nm 3) (.of (.var 1)) .no (.sub (.var 3) (.con (.int 1))) [("row", 3)])) .nil))⟩
def s__law_order : Sem := run f__law_order
/-- _law_grams; top 30; calls [] -/
def n__law_grams : List Str := ["text", "many", "told", "k", "part"]
def f__law_grams : Fn := ⟨2, 5, (.cons (.set 2 2 (.dic false)) (.cons (.for_ (.nm 3) (.rng (.cons (.bin .Add (.bin .Sub (.blt .len (.cons (.var 0) .nil)) (.var 1)) (.con (.int 1))) .nil)) (.cons (.set 0 4 (.slc (.var 0) (.so (.var 3)) (.so (.bin .Add (.var 3) (.var 1))))) (.cons (.ife (.cmp .NotIn (.var 4) (.var 2)) (.cons (.stf 2 (.var 4) (.lst .nil)) .nil) .nil) (.cons (.apk 2 (.var 4) (.var 3)) .nil)))) (.cons (.ret (.var 2)) .nil)))⟩
def s__law_grams : Sem := run f__law_grams
/-- _law_starts; top 31; calls [] -/
def n__law_starts : List Str := ["part", "text", "k"]
def f__law_starts : Fn := ⟨2, 3, (.cons (.ret (.comp (.nm 2) (.rng (.cons (.bin .Add (.bin .Sub (.blt .len (.cons (.var 1) .nil)) (.blt .len (.cons (.var 0) .nil))) (.con (.int 1))) .nil)) (.so (.cmp .Eq (.slc (.var 1) (.so (.var 2)) (.so (.bin .Add (.var 2) (.blt .len (.cons (.var 0) .nil))))) (.var 0))) (.var 2) [("k", 2)])) .nil)⟩
def s__law_starts : Sem := run f__law_starts
/-- _law_turns; top 32; calls [] -/
def n__law_turns : List Str := ["text", "rows", "k", "row", "alike", "turn"]
def f__law_turns : Fn := ⟨1, 6, (.cons (.set 0 1 (.blt .sorted (.cons (.comp (.nm 2) (.rng (.cons (.blt .len (.cons (.var 0) .nil)) .nil)) .no (.tup (.cons (.bin .Add (.slc (.var 0) (.so (.var 2)) .no) (.slc (.var 0) .no (.so (.var 2)))) (.cons (.var 2) .nil))) [("k", 2)]) .nil))) (.cons (.set 0 3 (.con (.int 0))) (.cons (.set 0 4 (.con (.bool false))) (.cons (.for_ (.nm 2) (.rng (.cons (.blt .len (.cons (.var 1) .nil)) .nil)) (.cons (.ife (.cmp .Eq (.sub (.sub (.var 1) (.var 2)) (.con (.int 1))) (.con (.int 0))) (.cons (.set 0 3 (.var 2)) .nil) .nil) (.cons (.ife (.and (.cons (.cmp .Gt (.var 2) (.con (.int 0))) (.cons (.cmp .Eq (.sub (.sub (.var 1) (.var 2)) (.con (.int 0))) (.sub (.sub (.var 1) (.bin .Sub (.var 2) (.con (.int 1)))) (.con (.int 0)))) .nil))) (.cons (.set 0 4 (.con (.bool true))) .nil) .nil) .nil))) (.cons (.ret (.lst (.cons (.met .join (.con (.str "")) (.cons (.comp (.nm 5) (.of (.var 1)) .no (.sub (.sub (.var 5) (.con (.int 0))) (.bin .Sub (.blt .len (.cons (.var 0) .nil)) (.con (.int 1)))) [("turn", 5)]) .nil)) (.cons (.var 3) (.cons (.var 4) .nil))))) .nil)))))⟩
def s__law_turns : Sem := run f__law_turns
/-- _law_order_asked; top 33; calls ['_law_alike', 'text_of_columns', 'turned_columns', '_law_turns', 'part_number', 'part_number_by_order', 'shared_lengths', '_law_shared', 'order_ranks', 'end_order', '_law_order'] -/
def n__law_order_asked : List Str := ["text", "order", "ranks", "k", "shared", "number", "turns"]
def f__law_order_asked : Fn := ⟨1, 7, (.cons (.set 0 1 (.call "_law_order" s__law_order (.cons (.var 0) .nil))) (.cons (.set 1 2 (.comp (.nm 3) (.of (.var 1)) .no (.con (.int 0)) [("k", 3)])) (.cons (.for_ (.nm 3) (.rng (.cons (.blt .len (.cons (.var 1) .nil)) .nil)) (.cons (.sti 2 (.sub (.var 1) (.var 3)) (.var 3)) .nil)) (.cons (.ife (.or (.cons (.nt (.call "_law_alike" (s__law_alike 6) (.cons (.call "end_order" s_end_order (.cons (.var 0) .nil)) (.cons (.blt .tuple (.cons (.var 1) .nil)) .nil)))) (.cons (.nt (.call "_law_alike" (s__law_alike 6) (.cons (.call "order_ranks" s_order_ranks (.cons (.var 0) .nil)) (.cons (.blt .tuple (.cons (.var 2) .nil)) .nil)))) .nil))) (.cons (.ret (.con (.bool false))) .nil) .nil) (.cons (.set 0 4 (.comp (.nm 3) (.rng (.cons (.bin .Sub (.blt .len (.cons (.var 1) .nil)) (.con (.int 1))) .nil)) .no (.call "_law_shared" s__law_shared (.cons (.slc (.var 0) (.so (.sub (.var 1) (.var 3))) .no) (.cons (.slc (.var 0) (.so (.sub (.var 1) (.bin .Add (.var 3) (.con (.int 1))))) .no) .nil))) [("k", 3)])) (.cons (.ife (.nt (.call "_law_alike" (s__law_alike 6) (.cons (.call "shared_lengths" s_shared_lengths (.cons (.var 0) .nil)) (.cons (.blt .tuple (.cons (.var 4) .nil)) .nil)))) (.cons (.ret (.con (.bool false))) .nil) .nil) (.cons (.set 0 5 (.bin .Sub (.bin .FloorDiv (.bin .Mult (.blt .len (.cons (.var 0) .nil)) (.bin .Add (.blt .len (.cons (.var 0) .nil)) (.con (.int 1)))) (.con (.int 2))) (.blt .sum (.cons (.var 4) .nil)))) (.cons (.ife (.nt (.call "_law_alike" (s__law_alike 6) (.cons (.call "part_number_by_order" s_part_number_by_order (.cons (.var 0) .nil)) (.cons (.var 5) .nil)))) (.cons (.ret (.con (.bool false))) .nil) .nil) (.cons (.ife (.and (.cons (.cmp .LtE (.blt .len (.cons (.var 0) .nil)) (.con (.int 60))) (.cons (.nt (.call "_law_alike" (s__law_alike 6) (.cons (.call "part_number" s_part_number (.cons (.var 0) .nil)) (.cons (.var 5) .nil)))) .nil))) (.cons (.ret (.con (.bool false))) .nil) .nil) (.cons (.set 0 6 (.call "_law_turns" s__law_turns (.cons (.var 0) .nil))) (.cons (.ife (.nt (.call "_law_alike" (s__law_alike 6) (.cons (.call "turned_columns" s_turned_columns (.cons (.var 0) .nil)) (.cons (.tup (.cons (.sub (.var 6) (.con (.int 0))) (.cons (.sub (.var 6) (.con (.int 1))) .nil))) .nil)))) (.cons (.ret (.con (.bool false))) .nil) .nil) (.cons (.ret (.or (.cons (.sub (.var 6) (.con (.int 2))) (.cons (.call "_law_alike" (s__law_alike 6) (.cons (.call "text_of_columns" s_text_of_columns (.cons (.sub (.var 6) (.con (.int 0))) (.cons (.sub (.var 6) (.con (.int 1))) .nil))) (.cons (.var 0) .nil))) .nil)))) .nil))))))))))))⟩
def s__law_order_asked : Sem := run f__law_order_asked
/-- _law_part_asked; top 34; calls ['_law_alike', 'place_count', 'places_of', 'ends_with_part', '_law_starts'] -/
def n__law_part_asked : List Str := ["text", "order", "part", "starts", "ahead", "k"]
def f__law_part_asked : Fn := ⟨3, 6, (.cons (.set 0 3 (.call "_law_starts" s__law_starts (.cons (.var 2) (.cons (.var 0) .nil)))) (.cons (.set 0 4 (.blt .len (.cons (.comp (.nm 5) (.of (.var 1)) (.so (.cmp .Lt (.slc (.var 0) (.so (.var 5)) (.so (.bin .Add (.var 5) (.blt .len (.cons (.var 2) .nil))))) (.var 2))) (.var 5) [("k", 5)]) .nil))) (.cons (.ife (.nt (.call "_law_alike" (s__law_alike 6) (.cons (.call "ends_with_part" s_ends_with_part (.cons (.var 0) (.cons (.var 2) .nil))) (.cons (.tup (.cons (.var 4) (.cons (.bin .Add (.var 4) (.blt .len (.cons (.var 3) .nil))) .nil))) .nil)))) (.cons (.ret (.con (.bool false))) .nil) .nil) (.cons (.ife (.nt (.call "_law_alike" (s__law_alike 6) (.cons (.call "places_of" s_places_of (.cons (.var 2) (.cons (.var 0) .nil))) (.cons (.blt .tuple (.cons (.var 3) .nil)) .nil)))) (.cons (.ret (.con (.bool false))) .nil) .nil) (.cons (.ife (.nt (.call "_law_alike" (s__law_alike 6) (.cons (.call "place_count" s_place_count (.cons (.var 2) (.cons (.var 0) .nil))) (.cons (.blt .len (.cons (.var 3) .nil)) .nil)))) (.cons (.ret (.con (.bool false))) .nil) .nil) (.cons (.ret (.cmp .Eq (.blt .sorted (.cons (.slc (.var 1) (.so (.var 4)) (.so (.bin .Add (.var 4) (.blt .len (.cons (.var 3) .nil))))) .nil)) (.var 3))) .nil))))))⟩
def s__law_part_asked : Sem := run f__law_part_asked
/-- _law_repeats_asked; top 35; calls ['_law_alike', 'gram_places', 'unlike_parts', 'repeats_at_least', '_law_grams'] -/
def n__law_repeats_asked : List Str := ["text", "many", "grams", "parts", "part", "twice"]
def f__law_repeats_asked : Fn := ⟨2, 6, (.cons (.set 0 2 (.call "_law_grams" s__law_grams (.cons (.var 0) (.cons (.var 1) .nil)))) (.cons (.set 0 3 (.blt .sorted (.cons (.keyl 2 4) .nil))) (.cons (.set 0 5 (.comp (.nm 4) (.of (.var 3)) (.so (.cmp .Gt (.blt .len (.cons (.sub (.var 2) (.var 4)) .nil)) (.con (.int 1)))) (.var 4) [("part", 4)])) (.cons (.ife (.nt (.call "_law_alike" (s__law_alike 6) (.cons (.call "repeats_at_least" s_repeats_at_least (.cons (.var 0) (.cons (.var 1) .nil))) (.cons (.blt .tuple (.cons (.var 5) .nil)) .nil)))) (.cons (.ret (.con (.bool false))) .nil) .nil) (.cons (.ife (.nt (.call "_law_alike" (s__law_alike 6) (.cons (.call "unlike_parts" s_unlike_parts (.cons (.var 0) (.cons (.var 1) .nil))) (.cons (.blt .tuple (.cons (.var 3) .nil)) .nil)))) (.cons (.ret (.con (.bool false))) .nil) .nil) (.cons (.ret (.call "_law_alike" (s__law_alike 6) (.cons (.call "gram_places" s_gram_places (.cons (.var 0) (.cons (.var 1) .nil))) (.cons (.blt .tuple (.cons (.comp (.nm 4) (.of (.var 3)) .no (.tup (.cons (.var 4) (.cons (.blt .tuple (.cons (.sub (.var 2) (.var 4)) .nil)) .nil))) [("part", 4)]) .nil)) .nil)))) .nil))))))⟩
def s__law_repeats_asked : Sem := run f__law_repeats_asked
/-- _law_longest_asked; top 36; calls ['_law_alike', 'repeats_at_least', '_law_repeats_asked', 'repeat_length', 'longest_repeat'] -/
def n__law_longest_asked : List Str := ["text", "shared", "order", "longest", "one", "due", "k"]
def f__law_longest_asked : Fn := ⟨3, 7, (.cons (.set 0 3 (.con (.int 0))) (.cons (.for_ (.nm 4) (.of (.var 1)) (.cons (.set 0 3 (.blt .max (.cons (.var 3) (.cons (.var 4) .nil)))) .nil)) (.cons (.set 0 5 (.con (.str ""))) (.cons (.for_ (.nm 6) (.rng (.cons (.blt .len (.cons (.var 1) .nil)) .nil)) (.cons (.ife (.and (.cons (.cmp .Eq (.sub (.var 1) (.var 6)) (.var 3)) (.cons (.cmp .Gt (.var 3) (.con (.int 0))) .nil))) (.cons (.set 0 5 (.slc (.var 0) (.so (.sub (.var 2) (.var 6))) (.so (.bin .Add (.sub (.var 2) (.var 6)) (.var 3))))) (.cons (.brk) .nil)) .nil) .nil)) (.cons (.ife (.or (.cons (.nt (.call "_law_alike" (s__law_alike 6) (.cons (.call "longest_repeat" s_longest_repeat (.cons (.var 0) .nil)) (.cons (.var 5) .nil)))) (.cons (.nt (.call "_law_alike" (s__law_alike 6) (.cons (.call "repeat_length" s_repeat_length (.cons (.var 0) .nil)) (.cons (.var 3) .nil)))) .nil))) (.cons (.ret (.con (.bool false))) .nil) .nil) (.cons (.ife (.and (.cons (.cmp .Gt (.var 3) (.con (.int 0))) (.cons (.nt (.call "_law_repeats_asked" s__law_repeats_asked (.cons (.var 0) (.cons (.var 3) .nil)))) .nil))) (.cons (.ret (.con (.bool false))) .nil) .nil) (.cons (.ret (.call "_law_alike" (s__law_alike 6) (.cons (.call "repeats_at_least" s_repeats_at_least (.cons (.var 0) (.cons (.bin .Add (.var 3) (.con (.int 1))) .nil))) (.cons (.tup .nil) .nil)))) .nil)))))))⟩
def s__law_longest_asked : Sem := run f__law_longest_asked
/-- _law_periodic; top 37; calls ['_law_pick'] -/
def n__law_periodic : List Str := ["well", "text", "many", "told", "k"]
def f__law_periodic : Fn := ⟨2, 5, (.cons (.ife (.cmp .Eq (.blt .len (.cons (.var 1) .nil)) (.con (.int 0))) (.cons (.ret (.var 1)) .nil) .nil) (.cons (.set 0 2 (.bin .Add (.con (.int 1)) (.call "_law_pick" s__law_pick (.cons (.var 0) (.cons (.con (.int 4)) .nil))))) (.cons (.set 0 3 (.met .join (.con (.str "")) (.cons (.comp (.nm 4) (.rng (.cons (.var 2) .nil)) .no (.slc (.var 1) .no (.so (.con (.int 6)))) [("k", 4)]) .nil))) (.cons (.ife (.cmp .Eq (.call "_law_pick" s__law_pick (.cons (.var 0) (.cons (.con (.int 2)) .nil))) (.con (.int 0))) (.cons (.set 0 3 (.bin .Add (.var 3) (.slc (.var 1) .no (.so (.con (.int 1)))))) .nil) .nil) (.cons (.ret (.var 3)) .nil)))))⟩
def s__law_periodic : Sem := run f__law_periodic
/-- law; top 38; calls ['_law_longest_asked', '_law_shared', '_law_pick', '_law_repeats_asked', '_law_part_asked', '_law_text', '_law_order', '_law_order_asked', '_law_periodic', '_law_signs'] -/
def n_law : List Str := ["script", "well", "signs", "size", "wide", "text", "other", "order", "parts", "first", "part", "many", "shared", "k"]
def b_law : Sts := (.cons (.set 0 2 (.call "_law_signs" s__law_signs (.cons (.var 1) .nil))) (.cons (.set 0 3 (.call "_law_pick" s__law_pick (.cons (.var 1) (.cons (.con (.int 25)) .nil)))) (.cons (.set 0 4 (.call "_law_pick" s__law_pick (.cons (.var 1) (.cons (.con (.int 13)) .nil)))) (.cons (.ife (.cmp .Eq (.var 4) (.con (.int 8))) (.cons (.set 0 3 (.bin .Add (.con (.int 90)) (.call "_law_pick" s__law_pick (.cons (.var 1) (.cons (.con (.int 60)) .nil))))) (.cons (.ife (.cmp .Eq (.call "_law_pick" s__law_pick (.cons (.var 1) (.cons (.con (.int 3)) .nil))) (.con (.int 0))) (.cons (.set 0 3 (.con (.int 300))) .nil) .nil) .nil)) .nil) (.cons (.set 0 5 (.call "_law_text" s__law_text (.cons (.var 1) (.cons (.var 2) (.cons (.var 3) .nil))))) (.cons (.set 0 6 (.call "_law_periodic" s__law_periodic (.cons (.var 1) (.cons (.var 5) .nil)))) (.cons (.ife (.or (.cons (.nt (.call "_law_order_asked" s__law_order_asked (.cons (.var 5) .nil))) (.cons (.nt (.call "_law_order_asked" s__law_order_asked (.cons (.var 6) .nil))) .nil))) (.cons (.ret (.con (.bool false))) .nil) .nil) (.cons (.set 0 7 (.call "_law_order" s__law_order (.cons (.var 5) .nil))) (.cons (.set 0 8 (.lst (.cons (.sub (.var 2) (.con (.int 0))) (.cons (.bin .Add (.sub (.var 2) (.con (.int 1))) (.sub (.var 2) (.con (.int 0)))) (.cons (.bin .Add (.con (.str "~")) (.sub (.var 2) (.con (.int 0)))) (.cons (.con (.str " ")) (.cons (.call "_law_text" s__law_text (.cons (.var 1) (.cons (.var 2) (.cons (.bin .Add (.con (.int 1)) (.call "_law_pick" s__law_pick (.cons (.var 1) (.cons (.con (.int 4)) .nil)))) .nil)))) .nil))))))) (.cons (.ife (.cmp .Gt (.blt .len (.cons (.var 5) .nil)) (.con (.int 0))) (.cons (.set 0 9 (.call "_law_pick" s__law_pick (.cons (.var 1) (.cons (.blt .len (.cons (.var 5) .nil)) .nil)))) (.cons (.set 0 10 (.slc (.var 5) (.so (.var 9)) (.so (.bin .Add (.bin .Add (.var 9) (.con (.int 1))) (.call "_law_pick" s__law_pick (.cons (.var 1) (.cons (.con (.int 6)) .nil))))))) (.cons (.set 0 8 (.bin .Add (.var 8) (.lst (.cons (.var 10) (.cons (.bin .Add (.var 10) (.sub (.var 2) (.con (.int 1)))) (.cons (.slc (.var 5) (.so (.var 9)) .no) (.cons (.var 5) (.cons (.slc (.bin .Add (.var 5) (.sub (.var 2) (.con (.int 0)))) .no (.so (.con (.int 300)))) (.cons (.bin .Add (.sub (.var 2) (.bin .Mult (.con (.int 2)) (.blt .int (.cons (.cmp .Gt (.blt .len (.cons (.var 2) .nil)) (.con (.int 2))) .nil)))) (.var 10)) .nil))))))))) .nil))) .nil) (.cons (.for_ (.nm 10) (.of (.var 8)) (.cons (.ife (.nt (.call "_law_part_asked" s__law_part_asked (.cons (.var 5) (.cons (.var 7) (.cons (.var 10) .nil))))) (.cons (.ret (.con (.bool false))) .nil) .nil) .nil)) (.cons (.for_ (.nm 11) (.of (.tup (.cons (.con (.int 1)) (.cons (.con (.int 2)) (.cons (.bin .Add (.con (.int 1)) (.call "_law_pick" s__law_pick (.cons (.var 1) (.cons (.con (.int 6)) .nil)))) (.cons (.bin .Add (.blt .len (.cons (.var 5) .nil)) (.con (.int 1))) .nil)))))) (.cons (.ife (.nt (.call "_law_repeats_asked" s__law_repeats_asked (.cons (.var 5) (.cons (.var 11) .nil)))) (.cons (.ret (.con (.bool false))) .nil) .nil) .nil)) (.cons (.ife (.cmp .Gt (.blt .len (.cons (.var 5) .nil)) (.con (.int 60))) (.cons (.ret (.con (.bool true))) .nil) .nil) (.cons (.set 0 12 (.comp (.nm 13) (.rng (.cons (.bin .Sub (.blt .len (.cons (.var 7) .nil)) (.con (.int 1))) .nil)) .no (.call "_law_shared" s__law_shared (.cons (.slc (.var 5) (.so (.sub (.var 7) (.var 13))) .no) (.cons (.slc (.var 5) (.so (.sub (.var 7) (.bin .Add (.var 13) (.con (.int 1))))) .no) .nil))) [("k", 13)])) (.cons (.ret (.call "_law_longest_asked" s__law_longest_asked (.cons (.var 5) (.cons (.var 12) (.cons (.var 7) .nil))))) .nil)))))))))))))))
end K89
set_option Elab.async false
set_option linter.all false
set_option maxRecDepth 100000
set_option maxHeartbeats 4000000
/-! the defs of law k89 do what their terms say (written by genfn.py) -/
namespace K89
open PySem PySem.Spec PyProof.Rows L2 TI
structure Txt (K : PySem.W.Frag) (mg : Str → Option Value) : Prop where
  t_shared_begin : FnAt K mg "shared_begin" (topS 1) ["one", "other"]
  t_end_order : FnAt K mg "end_order" (topS 3) ["text"]
  t_order_ranks : FnAt K mg "order_ranks" (topS 4) ["text"]
  t_shared_lengths : FnAt K mg "shared_lengths" (topS 5) ["text"]
  t_ends_with_part : FnAt K mg "ends_with_part" (topS 6) ["text", "part"]
  t_part_number_by_order : FnAt K mg "part_number_by_order" (topS 7) ["text"]
  t_repeats_at_least : FnAt K mg "repeats_at_least" (topS 8) ["text", "many"]
  t_turned_columns : FnAt K mg "turned_columns" (topS 9) ["text"]
  t_text_of_columns : FnAt K mg "text_of_columns" (topS 10) ["last", "number"]
  t_places_of : FnAt K mg "places_of" (topS 12) ["part", "text"]
  t_place_count : FnAt K mg "place_count" (topS 13) ["part", "text"]
  t__shared_lengths : FnAt K mg "_shared_lengths" (topS 15) ["one", "other"]
  t_longest_repeat : FnAt K mg "longest_repeat" (topS 16) ["text"]
  t_repeat_length : FnAt K mg "repeat_length" (topS 17) ["text"]
  t_unlike_parts : FnAt K mg "unlike_parts" (topS 18) ["text", "many"]
  t_part_number : FnAt K mg "part_number" (topS 19) ["text"]
  t_gram_places : FnAt K mg "gram_places" (topS 21) ["text", "many"]
  t__law_well : FnAt K mg "_law_well" (topS 23) ["script"]
  t__law_pick : FnAt K mg "_law_pick" (topS 24) ["well", "many"]
  t__law_alike : FnAt K mg "_law_alike" (topS 25) ["told", "due"]
  t__law_signs : FnAt K mg "_law_signs" (topS 26) ["well"]
  t__law_text : FnAt K mg "_law_text" (topS 27) ["well", "signs", "size"]
  t__law_shared : FnAt K mg "_law_shared" (topS 28) ["one", "other"]
  t__law_order : FnAt K mg "_law_order" (topS 29) ["text"]
  t__law_grams : FnAt K mg "_law_grams" (topS 30) ["text", "many"]
  t__law_starts : FnAt K mg "_law_starts" (topS 31) ["part", "text"]
  t__law_turns : FnAt K mg "_law_turns" (topS 32) ["text"]
  t__law_order_asked : FnAt K mg "_law_order_asked" (topS 33) ["text"]
  t__law_part_asked : FnAt K mg "_law_part_asked" (topS 34) ["text", "order", "part"]
  t__law_repeats_asked : FnAt K mg "_law_repeats_asked" (topS 35) ["text", "many"]
  t__law_longest_asked : FnAt K mg "_law_longest_asked" (topS 36) ["text", "shared", "order"]
  t__law_periodic : FnAt K mg "_law_periodic" (topS 37) ["well", "text"]
  z : ∀ x ∈ bnames, mg x = none
section
variable {P : Program} {w : World} {K : PySem.W.Frag} {mg : Str → Option Value} {base : Heap} {r c : Addr}
theorem g__law_pick (T : Txt K mg) : GFn P w K mg base (wellZ r c) 1 "_law_pick" s__law_pick := by
  obtain ⟨f, fd, F, b, m⟩ := T.t__law_pick
  exact ok_pick F b m (T.z _ (by decide)) (T.z _ (by decide))
theorem sc_shared_begin : FnScope n_shared_begin ["one", "other"] (defScope (topS 1)) := ⟨rfl, rfl, rfl, by decide +kernel, rfl, by decide +kernel, by decide +kernel⟩
theorem g_shared_begin (T : Txt K mg) : GFn P w K mg base (wellZ r c) 1 "shared_begin" s_shared_begin := by
  obtain ⟨f, fd, F, b, m⟩ := T.t_shared_begin
  exact gfn F sc_shared_begin b m f_shared_begin rfl rfl (by decide +kernel) T.z (fun p hp => absurd hp List.not_mem_nil) (fun p hp => absurd hp List.not_mem_nil)
theorem sc_end_order : FnScope n_end_order ["text"] (defScope (topS 3)) := ⟨rfl, rfl, rfl, by decide +kernel, rfl, by decide +kernel, by decide +kernel⟩
theorem g_end_order (T : Txt K mg) : GFn P w K mg base (wellZ r c) 1 "end_order" s_end_order := by
  obtain ⟨f, fd, F, b, m⟩ := T.t_end_order
  exact gfn F sc_end_order b m f_end_order rfl rfl (by decide +kernel) T.z (fun p hp => absurd hp List.not_mem_nil) (fun p hp => absurd hp List.not_mem_nil)
theorem sc_order_ranks : FnScope n_order_ranks ["text"] (defScope (topS 4)) := ⟨rfl, rfl, rfl, by decide +kernel, rfl, by decide +kernel, by decide +kernel⟩
theorem g_order_ranks (T : Txt K mg) : GFn P w K mg base (wellZ r c) 2 "order_ranks" s_order_ranks := by
  obtain ⟨f, fd, F, b, m⟩ := T.t_order_ranks
  exact gfn F sc_order_ranks b m f_order_ranks rfl rfl (by decide +kernel) T.z (fun p hp => by
    repeat (rcases List.mem_cons.mp hp with rfl | hp; first | exact (g_end_order T).mono (by decide) )
    exact absurd hp List.not_mem_nil) (fun p hp => absurd hp List.not_mem_nil)
theorem sc_shared_lengths : FnScope n_shared_lengths ["text"] (defScope (topS 5)) := ⟨rfl, rfl, rfl, by decide +kernel, rfl, by decide +kernel, by decide +kernel⟩
theorem g_shared_lengths (T : Txt K mg) : GFn P w K mg base (wellZ r c) 2 "shared_lengths" s_shared_lengths := by
  obtain ⟨f, fd, F, b, m⟩ := T.t_shared_lengths
  exact gfn F sc_shared_lengths b m f_shared_lengths rfl rfl (by decide +kernel) T.z (fun p hp => by
    repeat (rcases List.mem_cons.mp hp with rfl | hp; first | exact (g_end_order T).mono (by decide) | exact (g_shared_begin T).mono (by decide) )
    exact absurd hp List.not_mem_nil) (fun p hp => absurd hp List.not_mem_nil)
theorem sc_ends_with_part : FnScope n_ends_with_part ["text", "part"] (defScope (topS 6)) := ⟨rfl, rfl, rfl, by decide +kernel, rfl, by decide +kernel, by decide +kernel⟩
theorem g_ends_with_part (T : Txt K mg) : GFn P w K mg base (wellZ r c) 2 "ends_with_part" s_ends_with_part := by
  obtain ⟨f, fd, F, b, m⟩ := T.t_ends_with_part
  exact gfn F sc_ends_with_part b m f_ends_with_part rfl rfl (by decide +kernel) T.z (fun p hp => by
    repeat (rcases List.mem_cons.mp hp with rfl | hp; first | exact (g_end_order T).mono (by decide) )
    exact absurd hp List.not_mem_nil) (fun p hp => absurd hp List.not_mem_nil)
theorem sc_part_number_by_order : FnScope n_part_number_by_order ["text"] (defScope (topS 7)) := ⟨rfl, rfl, rfl, by decide +kernel, rfl, by decide +kernel, by decide +kernel⟩
theorem g_part_number_by_order (T : Txt K mg) : GFn P w K mg base (wellZ r c) 3 "part_number_by_order" s_part_number_by_order := by
  obtain ⟨f, fd, F, b, m⟩ := T.t_part_number_by_order
  exact gfn F sc_part_number_by_order b m f_part_number_by_order rfl rfl (by decide +kernel) T.z (fun p hp => by
    repeat (rcases List.mem_cons.mp hp with rfl | hp; first | exact (g_shared_lengths T).mono (by decide) )
    exact absurd hp List.not_mem_nil) (fun p hp => absurd hp List.not_mem_nil)
theorem sc_repeats_at_least : FnScope n_repeats_at_least ["text", "many"] (defScope (topS 8)) := ⟨rfl, rfl, rfl, by decide +kernel, rfl, by decide +kernel, by decide +kernel⟩
theorem g_repeats_at_least (T : Txt K mg) : GFn P w K mg base (wellZ r c) 3 "repeats_at_least" s_repeats_at_least := by
  obtain ⟨f, fd, F, b, m⟩ := T.t_repeats_at_least
  exact gfn F sc_repeats_at_least b m f_repeats_at_least rfl rfl (by decide +kernel) T.z (fun p hp => by
    repeat (rcases List.mem_cons.mp hp with rfl | hp; first | exact (g_end_order T).mono (by decide) | exact (g_shared_lengths T).mono (by decide) )
    exact absurd hp List.not_mem_nil) (fun p hp => absurd hp List.not_mem_nil)
theorem sc_turned_columns : FnScope n_turned_columns ["text"] (defScope (topS 9)) := ⟨rfl, rfl, rfl, by decide +kernel, rfl, by decide +kernel, by decide +kernel⟩
theorem g_turned_columns (T : Txt K mg) : GFn P w K mg base (wellZ r c) 1 "turned_columns" s_turned_columns := by
  obtain ⟨f, fd, F, b, m⟩ := T.t_turned_columns
  exact gfn F sc_turned_columns b m f_turned_columns rfl rfl (by decide +kernel) T.z (fun p hp => absurd hp List.not_mem_nil) (fun p hp => absurd hp List.not_mem_nil)
theorem sc_text_of_columns : FnScope n_text_of_columns ["last", "number"] (defScope (topS 10)) := ⟨rfl, rfl, rfl, by decide +kernel, rfl, by decide +kernel, by decide +kernel⟩
theorem g_text_of_columns (T : Txt K mg) : GFn P w K mg base (wellZ r c) 1 "text_of_columns" s_text_of_columns := by
  obtain ⟨f, fd, F, b, m⟩ := T.t_text_of_columns
  exact gfn F sc_text_of_columns b m f_text_of_columns rfl rfl (by decide +kernel) T.z (fun p hp => absurd hp List.not_mem_nil) (fun p hp => absurd hp List.not_mem_nil)
theorem sc_places_of : FnScope n_places_of ["part", "text"] (defScope (topS 12)) := ⟨rfl, rfl, rfl, by decide +kernel, rfl, by decide +kernel, by decide +kernel⟩
theorem g_places_of (T : Txt K mg) : GFn P w K mg base (wellZ r c) 1 "places_of" s_places_of := by
  obtain ⟨f, fd, F, b, m⟩ := T.t_places_of
  exact gfn F sc_places_of b m f_places_of rfl rfl (by decide +kernel) T.z (fun p hp => absurd hp List.not_mem_nil) (fun p hp => absurd hp List.not_mem_nil)
theorem sc_place_count : FnScope n_place_count ["part", "text"] (defScope (topS 13)) := ⟨rfl, rfl, rfl, by decide +kernel, rfl, by decide +kernel, by decide +kernel⟩
theorem g_place_count (T : Txt K mg) : GFn P w K mg base (wellZ r c) 2 "place_count" s_place_count := by
  obtain ⟨f, fd, F, b, m⟩ := T.t_place_count
  exact gfn F sc_place_count b m f_place_count rfl rfl (by decide +kernel) T.z (fun p hp => by
    repeat (rcases List.mem_cons.mp hp with rfl | hp; first | exact (g_places_of T).mono (by decide) )
    exact absurd hp List.not_mem_nil) (fun p hp => absurd hp List.not_mem_nil)
theorem sc__shared_lengths : FnScope n__shared_lengths ["one", "other"] (defScope (topS 15)) := ⟨rfl, rfl, rfl, by decide +kernel, rfl, by decide +kernel, by decide +kernel⟩
theorem g__shared_lengths (T : Txt K mg) : GFn P w K mg base (wellZ r c) 1 "_shared_lengths" s__shared_lengths := by
  obtain ⟨f, fd, F, b, m⟩ := T.t__shared_lengths
  exact gfn F sc__shared_lengths b m f__shared_lengths rfl rfl (by decide +kernel) T.z (fun p hp => absurd hp List.not_mem_nil) (fun p hp => absurd hp List.not_mem_nil)
theorem sc_longest_repeat : FnScope n_longest_repeat ["text"] (defScope (topS 16)) := ⟨rfl, rfl, rfl, by decide +kernel, rfl, by decide +kernel, by decide +kernel⟩
theorem g_longest_repeat (T : Txt K mg) : GFn P w K mg base (wellZ r c) 2 "longest_repeat" s_longest_repeat := by
  obtain ⟨f, fd, F, b, m⟩ := T.t_longest_repeat
  exact gfn F sc_longest_repeat b m f_longest_repeat rfl rfl (by decide +kernel) T.z (fun p hp => by
    repeat (rcases List.mem_cons.mp hp with rfl | hp; first | exact (g__shared_lengths T).mono (by decide) )
    exact absurd hp List.not_mem_nil) (fun p hp => absurd hp List.not_mem_nil)
theorem sc_repeat_length : FnScope n_repeat_length ["text"] (defScope (topS 17)) := ⟨rfl, rfl, rfl, by decide +kernel, rfl, by decide +kernel, by decide +kernel⟩
theorem g_repeat_length (T : Txt K mg) : GFn P w K mg base (wellZ r c) 3 "repeat_length" s_repeat_length := by
  obtain ⟨f, fd, F, b, m⟩ := T.t_repeat_length
  exact gfn F sc_repeat_length b m f_repeat_length rfl rfl (by decide +kernel) T.z (fun p hp => by
    repeat (rcases List.mem_cons.mp hp with rfl | hp; first | exact (g_longest_repeat T).mono (by decide) )
    exact absurd hp List.not_mem_nil) (fun p hp => absurd hp List.not_mem_nil)
theorem sc_unlike_parts : FnScope n_unlike_parts ["text", "many"] (defScope (topS 18)) := ⟨rfl, rfl, rfl, by decide +kernel, rfl, by decide +kernel, by decide +kernel⟩
theorem g_unlike_parts (T : Txt K mg) : GFn P w K mg base (wellZ r c) 1 "unlike_parts" s_unlike_parts := by
  obtain ⟨f, fd, F, b, m⟩ := T.t_unlike_parts
  exact gfn F sc_unlike_parts b m f_unlike_parts rfl rfl (by decide +kernel) T.z (fun p hp => absurd hp List.not_mem_nil) (fun p hp => absurd hp List.not_mem_nil)
theorem sc_part_number : FnScope n_part_number ["text"] (defScope (topS 19)) := ⟨rfl, rfl, rfl, by decide +kernel, rfl, by decide +kernel, by decide +kernel⟩
theorem g_part_number (T : Txt K mg) : GFn P w K mg base (wellZ r c) 2 "part_number" s_part_number := by
  obtain ⟨f, fd, F, b, m⟩ := T.t_part_number
  exact gfn F sc_part_number b m f_part_number rfl rfl (by decide +kernel) T.z (fun p hp => by
    repeat (rcases List.mem_cons.mp hp with rfl | hp; first | exact (g_unlike_parts T).mono (by decide) )
    exact absurd hp List.not_mem_nil) (fun p hp => absurd hp List.not_mem_nil)
theorem sc_gram_places : FnScope n_gram_places ["text", "many"] (defScope (topS 21)) := ⟨rfl, rfl, rfl, by decide +kernel, rfl, by decide +kernel, by decide +kernel⟩
theorem g_gram_places (T : Txt K mg) : GFn P w K mg base (wellZ r c) 1 "gram_places" s_gram_places := by
  obtain ⟨f, fd, F, b, m⟩ := T.t_gram_places
  exact gfn F sc_gram_places b m f_gram_places rfl rfl (by decide +kernel) T.z (fun p hp => absurd hp List.not_mem_nil) (fun p hp => absurd hp List.not_mem_nil)
theorem sc__law_alike : FnScope n__law_alike ["told", "due"] (defScope (topS 25)) := ⟨rfl, rfl, rfl, by decide +kernel, rfl, by decide +kernel, by decide +kernel⟩
theorem g__law_alike_at (T : Txt K mg) : ∀ n, GFn P w K mg base (wellZ r c) (n + 1) "_law_alike" (s__law_alike n)
  | 0 => by
    obtain ⟨f, fd, F, b, m⟩ := T.t__law_alike
    exact gfn_stk F sc__law_alike b m
  | n + 1 => by
    obtain ⟨f, fd, F, b, m⟩ := T.t__law_alike
    refine gfn F sc__law_alike b m (f__law_alike (s__law_alike n)) rfl rfl (by rfl) T.z (fun p hp => by
    repeat (rcases List.mem_cons.mp hp with rfl | hp; first | exact g__law_alike_at T n )
    exact absurd hp List.not_mem_nil) (fun p hp => absurd hp List.not_mem_nil)
theorem g__law_alike (T : Txt K mg) : GFn P w K mg base (wellZ r c) 7 "_law_alike" (s__law_alike 6) := g__law_alike_at T 6
theorem sc__law_signs : FnScope n__law_signs ["well"] (defScope (topS 26)) := ⟨rfl, rfl, rfl, by decide +kernel, rfl, by decide +kernel, by decide +kernel⟩
theorem g__law_signs (T : Txt K mg) : GFn P w K mg base (wellZ r c) 2 "_law_signs" s__law_signs := by
  obtain ⟨f, fd, F, b, m⟩ := T.t__law_signs
  exact gfn F sc__law_signs b m f__law_signs rfl rfl (by decide +kernel) T.z (fun p hp => by
    repeat (rcases List.mem_cons.mp hp with rfl | hp; first | exact (g__law_pick T).mono (by decide) )
    exact absurd hp List.not_mem_nil) (fun p hp => absurd hp List.not_mem_nil)
theorem sc__law_text : FnScope n__law_text ["well", "signs", "size"] (defScope (topS 27)) := ⟨rfl, rfl, rfl, by decide +kernel, rfl, by decide +kernel, by decide +kernel⟩
theorem g__law_text (T : Txt K mg) : GFn P w K mg base (wellZ r c) 2 "_law_text" s__law_text := by
  obtain ⟨f, fd, F, b, m⟩ := T.t__law_text
  exact gfn F sc__law_text b m f__law_text rfl rfl (by decide +kernel) T.z (fun p hp => by
    repeat (rcases List.mem_cons.mp hp with rfl | hp; first | exact (g__law_pick T).mono (by decide) )
    exact absurd hp List.not_mem_nil) (fun p hp => absurd hp List.not_mem_nil)
theorem sc__law_shared : FnScope n__law_shared ["one", "other"] (defScope (topS 28)) := ⟨rfl, rfl, rfl, by decide +kernel, rfl, by decide +kernel, by decide +kernel⟩
theorem g__law_shared (T : Txt K mg) : GFn P w K mg base (wellZ r c) 1 "_law_shared" s__law_shared := by
  obtain ⟨f, fd, F, b, m⟩ := T.t__law_shared
  exact gfn F sc__law_shared b m f__law_shared rfl rfl (by decide +kernel) T.z (fun p hp => absurd hp List.not_mem_nil) (fun p hp => absurd hp List.not_mem_nil)
theorem sc__law_order : FnScope n__law_order ["text"] (defScope (topS 29)) := ⟨rfl, rfl, rfl, by decide +kernel, rfl, by decide +kernel, by decide +kernel⟩
theorem g__law_order (T : Txt K mg) : GFn P w K mg base (wellZ r c) 1 "_law_order" s__law_order := by
  obtain ⟨f, fd, F, b, m⟩ := T.t__law_order
  exact gfn F sc__law_order b m f__law_order rfl rfl (by decide +kernel) T.z (fun p hp => absurd hp List.not_mem_nil) (fun p hp => absurd hp List.not_mem_nil)
theorem sc__law_grams : FnScope n__law_grams ["text", "many"] (defScope (topS 30)) := ⟨rfl, rfl, rfl, by decide +kernel, rfl, by decide +kernel, by decide +kernel⟩
theorem g__law_grams (T : Txt K mg) : GFn P w K mg base (wellZ r c) 1 "_law_grams" s__law_grams := by
  obtain ⟨f, fd, F, b, m⟩ := T.t__law_grams
  exact gfn F sc__law_grams b m f__law_grams rfl rfl (by decide +kernel) T.z (fun p hp => absurd hp List.not_mem_nil) (fun p hp => absurd hp List.not_mem_nil)
theorem sc__law_starts : FnScope n__law_starts ["part", "text"] (defScope (topS 31)) := ⟨rfl, rfl, rfl, by decide +kernel, rfl, by decide +kernel, by decide +kernel⟩
theorem g__law_starts (T : Txt K mg) : GFn P w K mg base (wellZ r c) 1 "_law_starts" s__law_starts := by
  obtain ⟨f, fd, F, b, m⟩ := T.t__law_starts
  exact gfn F sc__law_starts b m f__law_starts rfl rfl (by decide +kernel) T.z (fun p hp => absurd hp List.not_mem_nil) (fun p hp => absurd hp List.not_mem_nil)
theorem sc__law_turns : FnScope n__law_turns ["text"] (defScope (topS 32)) := ⟨rfl, rfl, rfl, by decide +kernel, rfl, by decide +kernel, by decide +kernel⟩
theorem g__law_turns (T : Txt K mg) : GFn P w K mg base (wellZ r c) 1 "_law_turns" s__law_turns := by
  obtain ⟨f, fd, F, b, m⟩ := T.t__law_turns
  exact gfn F sc__law_turns b m f__law_turns rfl rfl (by decide +kernel) T.z (fun p hp => absurd hp List.not_mem_nil) (fun p hp => absurd hp List.not_mem_nil)
theorem sc__law_order_asked : FnScope n__law_order_asked ["text"] (defScope (topS 33)) := ⟨rfl, rfl, rfl, by decide +kernel, rfl, by decide +kernel, by decide +kernel⟩
theorem g__law_order_asked (T : Txt K mg) : GFn P w K mg base (wellZ r c) 8 "_law_order_asked" s__law_order_asked := by
  obtain ⟨f, fd, F, b, m⟩ := T.t__law_order_asked
  exact gfn F sc__law_order_asked b m f__law_order_asked rfl rfl (by decide +kernel) T.z (fun p hp => by
    repeat (rcases List.mem_cons.mp hp with rfl | hp; first | exact (g__law_order T).mono (by decide) | exact (g__law_turns T).mono (by decide) | exact (g__law_shared T).mono (by decide) | exact (g__law_alike T).mono (by decide) | exact (g_shared_lengths T).mono (by decide) | exact (g_part_number_by_order T).mono (by decide) | exact (g_turned_columns T).mono (by decide) | exact (g_text_of_columns T).mono (by decide) | exact (g_end_order T).mono (by decide) | exact (g_order_ranks T).mono (by decide) | exact (g_part_number T).mono (by decide) )
    exact absurd hp List.not_mem_nil) (fun p hp => absurd hp List.not_mem_nil)
theorem sc__law_part_asked : FnScope n__law_part_asked ["text", "order", "part"] (defScope (topS 34)) := ⟨rfl, rfl, rfl, by decide +kernel, rfl, by decide +kernel, by decide +kernel⟩
theorem g__law_part_asked (T : Txt K mg) : GFn P w K mg base (wellZ r c) 8 "_law_part_asked" s__law_part_asked := by
  obtain ⟨f, fd, F, b, m⟩ := T.t__law_part_asked
  exact gfn F sc__law_part_asked b m f__law_part_asked rfl rfl (by decide +kernel) T.z (fun p hp => by
    repeat (rcases List.mem_cons.mp hp with rfl | hp; first | exact (g__law_starts T).mono (by decide) | exact (g__law_alike T).mono (by decide) | exact (g_ends_with_part T).mono (by decide) | exact (g_places_of T).mono (by decide) | exact (g_place_count T).mono (by decide) )
    exact absurd hp List.not_mem_nil) (fun p hp => absurd hp List.not_mem_nil)
theorem sc__law_repeats_asked : FnScope n__law_repeats_asked ["text", "many"] (defScope (topS 35)) := ⟨rfl, rfl, rfl, by decide +kernel, rfl, by decide +kernel, by decide +kernel⟩
theorem g__law_repeats_asked (T : Txt K mg) : GFn P w K mg base (wellZ r c) 8 "_law_repeats_asked" s__law_repeats_asked := by
  obtain ⟨f, fd, F, b, m⟩ := T.t__law_repeats_asked
  exact gfn F sc__law_repeats_asked b m f__law_repeats_asked rfl rfl (by decide +kernel) T.z (fun p hp => by
    repeat (rcases List.mem_cons.mp hp with rfl | hp; first | exact (g__law_grams T).mono (by decide) | exact (g__law_alike T).mono (by decide) | exact (g_gram_places T).mono (by decide) | exact (g_repeats_at_least T).mono (by decide) | exact (g_unlike_parts T).mono (by decide) )
    exact absurd hp List.not_mem_nil) (fun p hp => absurd hp List.not_mem_nil)
theorem sc__law_longest_asked : FnScope n__law_longest_asked ["text", "shared", "order"] (defScope (topS 36)) := ⟨rfl, rfl, rfl, by decide +kernel, rfl, by decide +kernel, by decide +kernel⟩
theorem g__law_longest_asked (T : Txt K mg) : GFn P w K mg base (wellZ r c) 9 "_law_longest_asked" s__law_longest_asked := by
  obtain ⟨f, fd, F, b, m⟩ := T.t__law_longest_asked
  exact gfn F sc__law_longest_asked b m f__law_longest_asked rfl rfl (by decide +kernel) T.z (fun p hp => by
    repeat (rcases List.mem_cons.mp hp with rfl | hp; first | exact (g__law_alike T).mono (by decide) | exact (g_repeats_at_least T).mono (by decide) | exact (g__law_repeats_asked T).mono (by decide) | exact (g_longest_repeat T).mono (by decide) | exact (g_repeat_length T).mono (by decide) )
    exact absurd hp List.not_mem_nil) (fun p hp => absurd hp List.not_mem_nil)
theorem sc__law_periodic : FnScope n__law_periodic ["well", "text"] (defScope (topS 37)) := ⟨rfl, rfl, rfl, by decide +kernel, rfl, by decide +kernel, by decide +kernel⟩
theorem g__law_periodic (T : Txt K mg) : GFn P w K mg base (wellZ r c) 2 "_law_periodic" s__law_periodic := by
  obtain ⟨f, fd, F, b, m⟩ := T.t__law_periodic
  exact gfn F sc__law_periodic b m f__law_periodic rfl rfl (by decide +kernel) T.z (fun p hp => by
    repeat (rcases List.mem_cons.mp hp with rfl | hp; first | exact (g__law_pick T).mono (by decide) )
    exact absurd hp List.not_mem_nil) (fun p hp => absurd hp List.not_mem_nil)
-- levels: {'_law_pick': 1, 'shared_begin': 1, 'end_order': 1, 'order_ranks': 2, 'shared_lengths': 2, 'ends_with_part': 2, 'part_number_by_order': 3, 'repeats_at_least': 3, 'turned_columns': 1, 'text_of_columns': 1, 'places_of': 1, 'place_count': 2, '_shared_lengths': 1, 'longest_repeat': 2, 'repeat_length': 3, 'unlike_parts': 1, 'part_number': 2, 'gram_places': 1, '_law_signs': 2, '_law_text': 2, '_law_shared': 1, '_law_order': 1, '_law_grams': 1, '_law_starts': 1, '_law_turns': 1, '_law_alike': 7, '_law_order_asked': 8, '_law_part_asked': 8, '_law_repeats_asked': 8, '_law_longest_asked': 9, '_law_periodic': 2}
-- law calls ['_law_signs', '_law_text', '_law_periodic', '_law_order', '_law_longest_asked', '_law_shared', '_law_order_asked', '_law_part_asked', '_law_repeats_asked']
end
end K89
set_option Elab.async false
set_option linter.all false
set_option maxRecDepth 100000
set_option maxHeartbeats 4000000
/-! the law: the well is made, the rest runs -/
namespace K89
open PySem PySem.Spec PyProof.Rows L2 TI
def lawTrue : Prop := ∀ (cells : List Int) (stir : Int), cells ≠ [] → ∃ g', exSs b_law ([.no, .val .wel] ++ List.replicate 12 .no) [cells, [0], [stir]] = .ok (.rt (.bl true)) g'
theorem pss_ex {X : Cx} {ι : Type} {ss : List Stmt} {t : ι → TS} (h : ∀ i, PSs X ss (t i)) : PSs X ss (fun D σ H => ∃ i, t i D σ H) := ⟨fun pins s σ H D I ⟨i, q⟩ => (h i).run pins s σ H D I q⟩
section
variable {P : Program} {w : World} {K : PySem.W.Frag} {mg : Str → Option Value} {base : Heap}
theorem sc_law : FnScope n_law ["script"] (defScope (topS 38)) := ⟨rfl, rfl, rfl, by decide +kernel, rfl, by decide +kernel, by decide +kernel⟩
theorem law_fits : mSs n_law (defScope (topS 38)) b_law ((defBody (topS 38)).drop 1) = true := by decide +kernel
def spLaw (K : PySem.W.Frag) : Sp := fun vs H Q _ => ∃ (a : Addr) (ns : List Int), vs = [.ref a] ∧ SqL K H a (ns.map V.int) ∧ ns.length ≤ 63 ∧ ∀ H', Q (.bl true) H'
theorem law_calls (T : Txt K mg) {r c : Addr} : ∀ p ∈ b_law.calls, GFn P w K mg base (wellZ r c) 9 p.1 p.2 := fun p hp => by
  repeat (rcases List.mem_cons.mp hp with rfl | hp; first | exact (g__law_pick T).mono (by decide) | exact (g__law_signs T).mono (by decide) | exact (g__law_text T).mono (by decide) | exact (g__law_periodic T).mono (by decide) | exact (g__law_order T).mono (by decide) | exact (g__law_longest_asked T).mono (by decide) | exact (g__law_shared T).mono (by decide) | exact (g__law_order_asked T).mono (by decide) | exact (g__law_part_asked T).mono (by decide) | exact (g__law_repeats_asked T).mono (by decide))
  exact absurd hp List.not_mem_nil
theorem ok_law (L : lawTrue) {f : Addr} {fd : FuncData} (F : Fun K "law" "law" (topS 38) f fd) (T : Txt K mg) : FnOk P w K mg base (L2.CX P w) 10 f fd ["script"] (spLaw K) := by
  obtain ⟨fw, fdw, Fw, bw, mw⟩ := T.t__law_well
  have GW : FnOk P w K mg base (L2.CX P w) 1 fw fdw ["script"] (spWell K) := ok_well Fw (T.z _ (by decide)) (T.z _ (by decide))
  refine F.okX sc_law (fun vs H Q E h => ?_) (fun cdv A outer s H vs Q E hr h => ?_)
  · obtain ⟨a, ns, rfl, _⟩ := h
    rfl
  · obtain ⟨a, ns, rfl, hS, hl, q⟩ := h
    let X : Cx := cxOf (L2.CX P w) P w K mg base n_law "law" (defScope (topS 38)) f cdv A outer s H E
    have O : ∀ Z, XOk X Z (fun cls d _ H => E cls d H) 9 (defScope (topS 38)) := fun Z => ⟨rfl, sc_law.nd, rfl, hr, takes_of rfl rfl rfl rfl, T.z⟩
    have tk : Takes X (fun cls d _ H => E cls d H) := takes_of rfl rfl rfl rfl
    refine ⟨_, pss_cons (ps_set (X := X) (i := 1) sc_law.nd rfl (.inl rfl) (pe_call GW (hr.mono (by decide)) (by rfl) mw Fw.kp bw .nil (L2.passes_call (E := fun _ _ _ => False) tk fun _ _ _ _ h => h.elim) (pa_cons (pv 0) pa_nil)))
      (pss_ex fun i : Addr × Addr => sts_ps (Z := wellZ i.1 i.2) (W := fun cls d _ H => E cls d H) (k := 9) (passes_of rfl) (O _) (fun _ _ => rfl) b_law ((defBody (topS 38)).drop 1) law_fits ⟨law_calls T, fun p hp => absurd hp List.not_mem_nil⟩), ?_⟩
    refine ⟨_, rfl, a, ns, rfl, hS, hl, fun H' r c cells stir s1 nr nc ne hw => ?_⟩
    refine ⟨(r, c), (wellZ r c).F, [.no, .val .wel] ++ List.replicate 12 .no, [cells, [0], [stir]], fun _ => [], ?_, ?_⟩
    · have at' : (wellZ r c).At [cells, [0], [stir]] H' := ⟨_, _, _, rfl, hw⟩
      refine ⟨fun a h => h, (wellZ r c).mu at', at', rfl, rfl, fun i s e => ?_, fun _ _ => rfl, fun i j a h => by simp at h, fun i => .nil, fun i a h => by simp at h⟩
      match i, e with
      | 0, e => cases e; exact ⟨_, rfl, .no⟩
      | 1, e => cases e; exact ⟨_, rfl, .val .wel⟩
      | 2, e => cases e; exact ⟨_, rfl, .no⟩
      | 3, e => cases e; exact ⟨_, rfl, .no⟩
      | 4, e => cases e; exact ⟨_, rfl, .no⟩
      | 5, e => cases e; exact ⟨_, rfl, .no⟩
      | 6, e => cases e; exact ⟨_, rfl, .no⟩
      | 7, e => cases e; exact ⟨_, rfl, .no⟩
      | 8, e => cases e; exact ⟨_, rfl, .no⟩
      | 9, e => cases e; exact ⟨_, rfl, .no⟩
      | 10, e => cases e; exact ⟨_, rfl, .no⟩
      | 11, e => cases e; exact ⟨_, rfl, .no⟩
      | 12, e => cases e; exact ⟨_, rfl, .no⟩
      | 13, e => cases e; exact ⟨_, rfl, .no⟩
      | n + 14, e => simp at e
    · obtain ⟨g', e⟩ := L cells stir ne
      rw [e]
      intro v H2 a2 f2 n2
      cases n2
      exact q H2
end
end K89
set_option Elab.async false
set_option linter.all false
/-! texts in order, what two have in common (plain mathematics) -/
namespace TI
abbrev T := List Nat
def lcp : T → T → Nat
  | x :: xs, y :: ys => if x = y then lcp xs ys + 1 else 0
  | _, _ => 0
def leN (a b : T) : Prop := ltN b a = false
theorem leN.rf {a : T} : leN a a := sto_N.ir a
theorem leN_lt {a b : T} (h : ltN a b = true) : leN a b := by
  unfold leN
  cases e : ltN b a with
  | false => rfl
  | true => exact absurd (sto_N.tr _ _ _ h e) (by rw [sto_N.ir]; decide)
theorem leN_cases {a b : T} (h : leN a b) : ltN a b = true ∨ a = b := by
  cases e : ltN a b with
  | true => exact .inl rfl
  | false => exact .inr (sto_N.tot _ _ e h)
theorem leN.trans {a b c : T} (h1 : leN a b) (h2 : leN b c) : leN a c := by
  rcases leN_cases h1 with h | rfl
  · rcases leN_cases h2 with k | rfl
    · exact leN_lt (sto_N.tr _ _ _ h k)
    · exact h1
  · exact h2
theorem leN.anti {a b : T} (h1 : leN a b) (h2 : leN b a) : a = b := sto_N.tot _ _ h2 h1
theorem leN_total (a b : T) : leN a b ∨ leN b a := by
  cases e : ltN a b with
  | true => exact .inl (leN_lt e)
  | false => exact .inr e
theorem ltN_le {a b : T} (h : ltN a b = true) : ¬ leN b a := fun k => by unfold leN at k; rw [h] at k; cases k
theorem ltN_of {a b : T} (h : leN a b) (n : a ≠ b) : ltN a b = true := (leN_cases h).resolve_right n
theorem leN.lt {a b c : T} (h1 : leN a b) (h2 : ltN b c = true) : ltN a c = true := by
  rcases leN_cases h1 with h | rfl
  · exact sto_N.tr _ _ _ h h2
  · exact h2
theorem ltN.le {a b c : T} (h1 : ltN a b = true) (h2 : leN b c) : ltN a c = true := by
  rcases leN_cases h2 with h | rfl
  · exact sto_N.tr _ _ _ h1 h
  · exact h1
theorem leN_nil (a : T) : leN [] a := by cases a <;> rfl
theorem leN_cons {x y : Nat} {a b : T} : leN (x :: a) (y :: b) ↔ x < y ∨ (x = y ∧ leN a b) := by
  unfold leN
  show (if y = x then ltN b a else decide (y < x)) = false ↔ _
  by_cases h : y = x
  · rw [if_pos h]; subst h; simp
  · rw [if_neg h]; simp; omega
theorem ltN_cons {x y : Nat} {a b : T} : ltN (x :: a) (y :: b) = true ↔ x < y ∨ (x = y ∧ ltN a b = true) := by
  show (if x = y then ltN a b else decide (x < y)) = true ↔ _
  by_cases h : x = y
  · rw [if_pos h]; subst h; simp
  · rw [if_neg h]; simp [h]
theorem leN_take : ∀ (m : Nat) {a b : T}, leN a b → leN (a.take m) (b.take m)
  | 0, a, b, _ => by simp; exact leN.rf
  | m + 1, [], b, _ => by simp; exact leN_nil _
  | m + 1, x :: a, [], h => by cases h
  | m + 1, x :: a, y :: b, h => by
    rw [List.take_succ_cons, List.take_succ_cons, leN_cons]
    rcases leN_cons.mp h with h | ⟨h, k⟩
    · exact .inl h
    · exact .inr ⟨h, leN_take m k⟩
/-- order of texts of one length, with a tail each -/
theorem ltN_append : ∀ {a b : T} (c d : T), a.length = b.length → ltN a b = true → ltN (a ++ c) (b ++ d) = true
  | [], [], c, d, _, h => by cases h
  | x :: a, y :: b, c, d, e, h => by
    rw [List.cons_append, List.cons_append, ltN_cons]
    rcases ltN_cons.mp h with h | ⟨h, k⟩
    · exact .inl h
    · exact .inr ⟨h, ltN_append c d (by simpa using e) k⟩
  | [], _ :: _, _, _, e, _ => by simp at e
  | _ :: _, [], _, _, e, _ => by simp at e
theorem lcp_iff : ∀ {a b : T} {m : Nat}, m ≤ lcp a b ↔ a.take m = b.take m ∧ m ≤ a.length ∧ m ≤ b.length
  | [], b, m => by
    show m ≤ 0 ↔ _
    constructor
    · intro h
      have : m = 0 := by omega
      subst this; simp
    · intro h
      have := h.2.1
      simpa using this
  | x :: a, [], m => by
    show m ≤ 0 ↔ _
    constructor
    · intro h
      have : m = 0 := by omega
      subst this; simp
    · intro h
      have := h.2.2
      simpa using this
  | x :: a, y :: b, 0 => by simp
  | x :: a, y :: b, m + 1 => by
    unfold lcp
    by_cases h : x = y
    · subst h
      simp [lcp_iff (a := a) (b := b) (m := m)]
    · simp [h]
theorem lcp_le_left {a b : T} : lcp a b ≤ a.length := (lcp_iff.mp (Nat.le_refl _)).2.1
theorem lcp_le_right {a b : T} : lcp a b ≤ b.length := (lcp_iff.mp (Nat.le_refl _)).2.2
theorem lcp_comm {a b : T} : lcp a b = lcp b a := by
  have h : ∀ a b : T, lcp a b ≤ lcp b a := fun a b => by
    obtain ⟨h1, h2, h3⟩ := lcp_iff.mp (Nat.le_refl (lcp a b))
    exact lcp_iff.mpr ⟨h1.symm, h3, h2⟩
  exact Nat.le_antisymm (h a b) (h b a)
/-- what stands between two texts with a common beginning begins so, too -/
theorem between {a b c : T} {m : Nat} (h1 : leN a b) (h2 : leN b c) (h : m ≤ lcp a c) : m ≤ lcp a b := by
  obtain ⟨e, l1, l2⟩ := lcp_iff.mp h
  have k1 := leN_take m h1
  have k2 := leN_take m h2
  rw [← e] at k2
  have q := k1.anti k2
  refine lcp_iff.mpr ⟨q, l1, ?_⟩
  have := congrArg List.length q
  simp only [List.length_take] at this
  omega

/-! ### lists of texts in order -/
def adj : List T → List Nat
  | a :: b :: r => lcp a b :: adj (b :: r)
  | _ => []
theorem adj_len : ∀ L : List T, (adj L).length = L.length - 1
  | [] => rfl
  | [_] => rfl
  | a :: b :: r => by
    show (adj (b :: r)).length + 1 = _
    rw [adj_len (b :: r)]; simp
def reps (m : Nat) : List T → List T
  | [] => []
  | [a] => if m ≤ a.length then [a.take m] else []
  | a :: b :: r => if m ≤ a.length ∧ lcp a b < m then a.take m :: reps m (b :: r) else reps m (b :: r)
theorem mem_reps {m : Nat} {p : T} : ∀ {L : List T}, p ∈ reps m L ↔ ∃ s ∈ L, m ≤ s.length ∧ s.take m = p
  | [] => by simp [reps]
  | [a] => by
    unfold reps
    split
    · simp [*]; exact eq_comm
    · simp [*]
  | a :: b :: r => by
    have ih := mem_reps (m := m) (p := p) (L := b :: r)
    unfold reps
    split
    · rename_i h
      rw [List.mem_cons, ih]
      constructor
      · rintro (rfl | ⟨s, hs, k⟩)
        · exact ⟨a, by simp, h.1, rfl⟩
        · exact ⟨s, List.mem_cons_of_mem _ hs, k⟩
      · rintro ⟨s, hs, k⟩
        rcases List.mem_cons.mp hs with rfl | hs
        · exact .inl k.2.symm
        · exact .inr ⟨s, hs, k⟩
    · rename_i h
      rw [ih]
      constructor
      · rintro ⟨s, hs, k⟩
        exact ⟨s, List.mem_cons_of_mem _ hs, k⟩
      · rintro ⟨s, hs, k⟩
        rcases List.mem_cons.mp hs with rfl | hs
        · have : m ≤ lcp s b := by omega
          obtain ⟨e, _, l⟩ := lcp_iff.mp this
          exact ⟨b, by simp, l, by rw [← e]; exact k.2⟩
        · exact ⟨s, hs, k⟩
theorem reps_pw {m : Nat} : ∀ {L : List T}, L.Pairwise leN → (reps m L).Pairwise fun a b => ltN a b = true
  | [], _ => .nil
  | [a], _ => by unfold reps; split <;> simp
  | a :: b :: r, h => by
    obtain ⟨h1, h2⟩ := List.pairwise_cons.mp h
    have ih := reps_pw (m := m) h2
    unfold reps
    split
    · rename_i k
      refine List.pairwise_cons.mpr ⟨fun p hp => ?_, ih⟩
      obtain ⟨s, hs, l, rfl⟩ := mem_reps.mp hp
      refine ltN_of (leN_take m (h1 s hs)) fun e => ?_
      have q : m ≤ lcp a s := lcp_iff.mpr ⟨e, k.1, l⟩
      have : m ≤ lcp a b := by
        rcases List.mem_cons.mp hs with rfl | hs
        · exact q
        · exact between (h1 b (by simp)) ((List.pairwise_cons.mp h2).1 s hs) q
      omega
    · exact ih
theorem reps_len {m : Nat} : ∀ L : List T, (reps m L).length + (adj L).countP (fun x => decide (m ≤ x)) = L.countP fun a => decide (m ≤ a.length)
  | [] => rfl
  | [a] => by unfold reps adj; split <;> simp [*]
  | a :: b :: r => by
    have ih := reps_len (m := m) (b :: r)
    unfold reps adj
    rw [List.countP_cons (l := b :: r), List.countP_cons, ← ih]
    have l1 : lcp a b ≤ a.length := lcp_le_left
    by_cases c1 : m ≤ a.length
    · by_cases c2 : lcp a b < m
      · rw [if_pos ⟨c1, c2⟩, if_neg (by simp; omega), if_pos (by simpa using c1)]
        simp; omega
      · rw [if_neg (by omega), if_pos (by simp; omega), if_pos (by simpa using c1)]
        omega
    · rw [if_neg (by omega), if_neg (by simp; omega), if_neg (by simpa using c1)]
      omega
theorem sum_one (n x : Nat) (h : x ≤ n) : ((List.range n).map fun m => if m + 1 ≤ x then 1 else 0).sum = x := by
  induction n generalizing x with
  | zero => simp; omega
  | succ n ih =>
    rw [List.range_succ, List.map_append, List.sum_append]
    by_cases c : x = n + 1
    · subst c
      have : ((List.range n).map fun m => if m + 1 ≤ n + 1 then 1 else 0) = (List.range n).map fun m => if m + 1 ≤ n then 1 else 0 := by
        refine List.map_congr_left fun k hk => ?_
        have := List.mem_range.mp hk
        rw [if_pos (by omega), if_pos (by omega)]
      rw [this, ih n (Nat.le_refl _)]
      simp
    · rw [ih x (by omega)]
      simp; omega
theorem sum_map_add (l : List Nat) (f g : Nat → Nat) : (l.map fun x => f x + g x).sum = (l.map f).sum + (l.map g).sum := by
  induction l with
  | nil => rfl
  | cons x l ih => simp [ih]; omega
theorem sum_cnt (n : Nat) : ∀ l : List Nat, (∀ x ∈ l, x ≤ n) → ((List.range n).map fun m => l.countP fun x => decide (m + 1 ≤ x)).sum = l.sum
  | [], _ => by
    simp only [List.countP_nil, List.sum_nil]
    induction n with
    | zero => rfl
    | succ n ih => simp only [List.range_succ, List.map_append, List.sum_append, ih (by simp)]; rfl
  | x :: l, h => by
    have ih := sum_cnt n l fun y hy => h y (List.mem_cons_of_mem _ hy)
    have e : ((List.range n).map fun m => (x :: l).countP fun x => decide (m + 1 ≤ x)) = (List.range n).map fun m => (l.countP fun x => decide (m + 1 ≤ x)) + (if m + 1 ≤ x then 1 else 0) := by
      refine List.map_congr_left fun k _ => ?_
      rw [List.countP_cons]; simp
    rw [e, sum_map_add, ih, sum_one n x (h x (by simp)), List.sum_cons]; omega
theorem adj_le : ∀ {L : List T} {n : Nat}, (∀ a ∈ L, a.length ≤ n) → ∀ x ∈ adj L, x ≤ n
  | [], _, _, x, hx => by simp [adj] at hx
  | [_], _, _, x, hx => by simp [adj] at hx
  | a :: b :: r, n, h, x, hx => by
    rcases List.mem_cons.mp hx with rfl | hx
    · exact Nat.le_trans lcp_le_left (h a (by simp))
    · exact adj_le (fun y hy => h y (List.mem_cons_of_mem _ hy)) x hx
/-- how many unlike parts there are -/
theorem reps_sum (n : Nat) (L : List T) (h : ∀ a ∈ L, a.length ≤ n) : ((List.range n).map fun m => (reps (m + 1) L).length).sum + (adj L).sum = (L.map List.length).sum := by
  have e1 := sum_cnt n (adj L) (adj_le h)
  have e2 := sum_cnt n (L.map List.length) (fun x hx => by
    obtain ⟨a, ha, rfl⟩ := List.mem_map.mp hx
    exact h a ha)
  rw [← e1, ← e2, ← sum_map_add]
  congr 1
  refine List.map_congr_left fun k _ => ?_
  rw [reps_len, List.countP_map]
  rfl

/-! ### parts that stand at two places -/
/-- the beginnings of m signs that the next text has, too -/
def twos (m : Nat) : List T → List T
  | a :: b :: r => if m ≤ lcp a b then a.take m :: twos m (b :: r) else twos m (b :: r)
  | _ => []
theorem twos_mem {m : Nat} {p : T} : ∀ {L : List T}, p ∈ twos m L → p ∈ reps m L ∧ ∃ s ∈ L, s.take m = p
  | [], h => by simp [twos] at h
  | [_], h => by simp [twos] at h
  | a :: b :: r, h => by
    have ih := twos_mem (m := m) (p := p) (L := b :: r)
    have up : p ∈ twos m (b :: r) → p ∈ reps m (a :: b :: r) ∧ ∃ s ∈ a :: b :: r, s.take m = p := fun h => by
      obtain ⟨h1, s, hs, e⟩ := ih h
      obtain ⟨s', hs', k⟩ := mem_reps.mp h1
      exact ⟨mem_reps.mpr ⟨s', List.mem_cons_of_mem _ hs', k⟩, s, List.mem_cons_of_mem _ hs, e⟩
    unfold twos at h
    split at h
    · rename_i c
      rcases List.mem_cons.mp h with rfl | h
      · exact ⟨mem_reps.mpr ⟨a, by simp, (lcp_iff.mp c).2.1, rfl⟩, a, by simp, rfl⟩
      · exact up h
    · exact up h
theorem twos_pw {m : Nat} : ∀ {L : List T}, L.Pairwise leN → (twos m L).Pairwise leN
  | [], _ => .nil
  | [_], _ => .nil
  | a :: b :: r, h => by
    obtain ⟨h1, h2⟩ := List.pairwise_cons.mp h
    have ih := twos_pw (m := m) h2
    unfold twos
    split
    · refine List.pairwise_cons.mpr ⟨fun p hp => ?_, ih⟩
      obtain ⟨_, s, hs, rfl⟩ := twos_mem hp
      exact leN_take m (h1 s hs)
    · exact ih
/-- twice there: two neighbours have it -/
theorem twos_cnt {m : Nat} {p : T} : ∀ {L : List T}, L.Pairwise leN → (p ∈ twos m L ↔ 1 < L.countP fun s => decide (m ≤ s.length ∧ s.take m = p))
  | [], _ => by simp [twos]
  | [a], _ => by
    have : ([a].countP fun s => decide (m ≤ s.length ∧ s.take m = p)) ≤ 1 := List.countP_le_length
    simp [twos]; simpa using this
  | a :: b :: r, h => by
    obtain ⟨h1, h2⟩ := List.pairwise_cons.mp h
    have ih := twos_cnt (m := m) (p := p) h2
    rw [List.countP_cons]
    by_cases ha : m ≤ a.length ∧ a.take m = p
    · rw [if_pos (by simpa using ha)]
      unfold twos
      by_cases c : m ≤ lcp a b
      · rw [if_pos c]
        obtain ⟨e, l1, l2⟩ := lcp_iff.mp c
        have : 0 < (b :: r).countP fun s => decide (m ≤ s.length ∧ s.take m = p) := List.countP_pos_iff.mpr ⟨b, by simp, by simp; exact ⟨l2, e ▸ ha.2⟩⟩
        simp only [List.mem_cons]
        constructor
        · intro _; omega
        · intro _; exact .inl ha.2.symm
      · rw [if_neg c, ih]
        have z : ∀ s ∈ b :: r, ¬ (m ≤ s.length ∧ s.take m = p) := fun s hs k => by
          have q : m ≤ lcp a s := lcp_iff.mpr ⟨ha.2.trans k.2.symm, ha.1, k.1⟩
          rcases List.mem_cons.mp hs with rfl | hs
          · exact c q
          · exact c (between (h1 b (by simp)) ((List.pairwise_cons.mp h2).1 s hs) q)
        have : ((b :: r).countP fun s => decide (m ≤ s.length ∧ s.take m = p)) = 0 := List.countP_eq_zero.mpr fun s hs => by simpa using z s hs
        omega
    · rw [if_neg (by simpa using ha)]
      unfold twos
      by_cases c : m ≤ lcp a b
      · rw [if_pos c]
        have na : p ≠ a.take m := fun e => ha ⟨(lcp_iff.mp c).2.1, e.symm⟩
        simp only [List.mem_cons, na, false_or]
        simpa using ih
      · rw [if_neg c]; simpa using ih
/-- alike ones side by side are laid together -/
def lay (told : List T) (p : T) : List T := if told.getLast? = some p then told else told ++ [p]
theorem lay_all : ∀ (F told : List T), told.Pairwise (fun a b => ltN a b = true) → F.Pairwise leN → (∀ x ∈ told, ∀ y ∈ F, leN x y) →
    (F.foldl lay told).Pairwise (fun a b => ltN a b = true) ∧ ∀ p, p ∈ F.foldl lay told ↔ p ∈ told ∨ p ∈ F
  | [], told, h1, _, _ => ⟨h1, fun p => by simp⟩
  | q :: F, told, h1, h2, h3 => by
    obtain ⟨k1, k2⟩ := List.pairwise_cons.mp h2
    rw [List.foldl_cons]
    unfold lay
    split
    · rename_i e
      obtain ⟨r1, r2⟩ := lay_all F told h1 k2 fun x hx y hy => h3 x hx y (List.mem_cons_of_mem _ hy)
      refine ⟨r1, fun p => ?_⟩
      have r2 := r2 p
      unfold lay at r2
      rw [r2, List.mem_cons]
      have : q ∈ told := List.mem_of_getLast? e
      constructor
      · rintro (h | h)
        · exact .inl h
        · exact .inr (.inr h)
      · rintro (h | rfl | h)
        · exact .inl h
        · exact .inl this
        · exact .inr h
    · rename_i e
      have pw : (told ++ [q]).Pairwise fun a b => ltN a b = true := by
        rw [List.pairwise_append]
        refine ⟨h1, by simp, fun x hx y hy => ?_⟩
        obtain rfl : y = q := by simpa using hy
        refine ltN_of (h3 x hx y (by simp)) fun z => ?_
        subst z
        apply e
        obtain ⟨init, l, rfl⟩ : ∃ init l, told = init ++ [l] := by
          rcases List.eq_nil_or_concat told with rfl | ⟨i, l, rfl⟩
          · simp at hx
          · exact ⟨i, l, by simp⟩
        rw [List.getLast?_append]
        rcases List.mem_append.mp hx with hx | hx
        · have q1 := (List.pairwise_append.mp h1).2.2 x hx l (by simp)
          exact absurd (h3 l (by simp) x (by simp)) (ltN_le q1)
        · have : x = l := by simpa using hx
          simp [this]
      obtain ⟨r1, r2⟩ := lay_all F (told ++ [q]) pw k2 fun x hx y hy => by
        rcases List.mem_append.mp hx with hx | hx
        · exact h3 x hx y (List.mem_cons_of_mem _ hy)
        · obtain rfl : x = q := by simpa using hx
          exact k1 y hy
      refine ⟨r1, fun p => ?_⟩
      have r2 := r2 p
      unfold lay at r2
      rw [r2]
      simp
      constructor
      · rintro ((h | rfl) | h)
        · exact .inl h
        · exact .inr (.inl rfl)
        · exact .inr (.inr h)
      · rintro (h | rfl | h)
        · exact .inl (.inl h)
        · exact .inl (.inr rfl)
        · exact .inr h
/-- only one list in strict order has these members -/
theorem pw_nodup {l : List T} (h : l.Pairwise fun a b => ltN a b = true) : l.Nodup := h.imp fun {a b} k e => by
  subst e; rw [sto_N.ir] at k; cases k
theorem pw_uq {l k : List T} (h1 : l.Pairwise fun a b => ltN a b = true) (h2 : k.Pairwise fun a b => ltN a b = true) (h : ∀ p, p ∈ l ↔ p ∈ k) : l = k :=
  ((List.perm_ext_iff_of_nodup (pw_nodup h1) (pw_nodup h2)).mpr h).eq_of_pairwise (fun a b _ _ x y => absurd (sto_N.tr _ _ _ x y) (by rw [sto_N.ir]; decide)) h1 h2

/-! ### the greatest number of signs that two have in common -/
def mx : List Nat → Nat := List.foldl max 0
theorem foldl_max (l : List Nat) (a : Nat) : a ≤ l.foldl max a ∧ (∀ x ∈ l, x ≤ l.foldl max a) ∧ (l.foldl max a = a ∨ l.foldl max a ∈ l) := by
  induction l generalizing a with
  | nil => simp
  | cons y l ih =>
    obtain ⟨h1, h2, h3⟩ := ih (max a y)
    refine ⟨Nat.le_trans (Nat.le_max_left _ _) h1, fun x hx => ?_, ?_⟩
    · rcases List.mem_cons.mp hx with rfl | hx
      · exact Nat.le_trans (Nat.le_max_right _ _) h1
      · exact h2 x hx
    · rcases h3 with h | h
      · rw [List.foldl_cons, h]
        rcases Nat.le_total a y with q | q
        · rw [Nat.max_eq_right q]; exact .inr (by simp)
        · rw [Nat.max_eq_left q]; exact .inl rfl
      · exact .inr (List.mem_cons_of_mem _ h)
theorem le_mx {l : List Nat} {x : Nat} (h : x ∈ l) : x ≤ mx l := (foldl_max l 0).2.1 x h
theorem mx_mem {l : List Nat} (h : 0 < mx l) : mx l ∈ l := by
  rcases (foldl_max l 0).2.2 with e | e
  · have : mx l = 0 := e
    omega
  · exact e
theorem mx_le {l : List Nat} {n : Nat} (h : ∀ x ∈ l, x ≤ n) : mx l ≤ n := by
  by_cases z : 0 < mx l
  · exact h _ (mx_mem z)
  · omega
/-- two members, what they have in common is no more than two neighbours have -/
theorem adj_mx : ∀ {L : List T}, L.Pairwise leN → L.Pairwise fun a c => lcp a c ≤ mx (adj L)
  | [], _ => .nil
  | [_], _ => by simp
  | a :: b :: r, h => by
    obtain ⟨h1, h2⟩ := List.pairwise_cons.mp h
    have ih := adj_mx h2
    have up : mx (adj (b :: r)) ≤ mx (adj (a :: b :: r)) := mx_le fun x hx => le_mx (List.mem_cons_of_mem _ hx)
    have ab : lcp a b ≤ mx (adj (a :: b :: r)) := le_mx (by simp [adj])
    refine List.pairwise_cons.mpr ⟨fun c hc => ?_, ih.imp fun h => Nat.le_trans h up⟩
    rcases List.mem_cons.mp hc with rfl | hc
    · exact ab
    · exact Nat.le_trans (between (h1 b (by simp)) ((List.pairwise_cons.mp h2).1 c hc) (Nat.le_refl _)) ab
/-- the first of the greatest -/
def firstAt (m : Nat) : List T → T
  | a :: b :: r => if lcp a b = m then a.take m else firstAt m (b :: r)
  | _ => []
theorem firstAt_in {m : Nat} : ∀ {L : List T}, m ∈ adj L → firstAt m L ∈ twos m L
  | [], h => by simp [adj] at h
  | [_], h => by simp [adj] at h
  | a :: b :: r, h => by
    unfold firstAt twos
    by_cases c : lcp a b = m
    · rw [if_pos c, if_pos (by omega)]; simp
    · rw [if_neg c]
      rcases List.mem_cons.mp h with h | h
      · exact absurd h.symm c
      · have := firstAt_in h
        split
        · exact List.mem_cons_of_mem _ this
        · exact this
theorem firstAt_least {m : Nat} : ∀ {L : List T}, L.Pairwise leN → (∀ x ∈ adj L, x ≤ m) → ∀ p ∈ twos m L, leN (firstAt m L) p
  | [], _, _, p, hp => by simp [twos] at hp
  | [_], _, _, p, hp => by simp [twos] at hp
  | a :: b :: r, h, hm, p, hp => by
    obtain ⟨h1, h2⟩ := List.pairwise_cons.mp h
    have k := hm (lcp a b) (by simp [adj])
    unfold firstAt
    unfold twos at hp
    by_cases c : lcp a b = m
    · rw [if_pos c]
      rw [if_pos (by omega)] at hp
      rcases List.mem_cons.mp hp with rfl | hp
      · exact .rf
      · obtain ⟨_, s, hs, rfl⟩ := twos_mem hp
        exact leN_take m (h1 s hs)
    · rw [if_neg c]
      rw [if_neg (by omega)] at hp
      exact firstAt_least h2 (fun x hx => hm x (List.mem_cons_of_mem _ hx)) p hp
end TI
set_option Elab.async false
set_option linter.all false
/-! places in the order of their texts; turns and the way back from their last column -/
namespace TI
def lePf (f : Nat → T) (a b : Nat) : Bool := !(if f b = f a then decide (b < a) else ltN (f b) (f a))
def ordr (f : Nat → T) (n : Nat) : List Nat := (List.range n).mergeSort (lePf f)
theorem lePf_iff {f : Nat → T} {a b : Nat} : lePf f a b = true ↔ ltN (f a) (f b) = true ∨ (f a = f b ∧ a ≤ b) := by
  unfold lePf
  by_cases h : f b = f a
  · rw [if_pos h]; simp [h, sto_N.ir]
  · rw [if_neg h]
    have : ltN (f b) (f a) = false ↔ ltN (f a) (f b) = true := ⟨fun k => ltN_of k fun e => h e.symm, fun k => leN_lt k⟩
    simp [this]
    intro e; exact absurd e.symm h
theorem lePf_trans (f : Nat → T) (a b c : Nat) (h1 : lePf f a b = true) (h2 : lePf f b c = true) : lePf f a c = true := by
  rw [lePf_iff] at *
  rcases h1 with h1 | ⟨h1, k1⟩
  · rcases h2 with h2 | ⟨h2, k2⟩
    · exact .inl (sto_N.tr _ _ _ h1 h2)
    · exact .inl (h2 ▸ h1)
  · rcases h2 with h2 | ⟨h2, k2⟩
    · exact .inl (h1 ▸ h2)
    · exact .inr ⟨h1.trans h2, by omega⟩
theorem lePf_total (f : Nat → T) (a b : Nat) : (lePf f a b || lePf f b a) = true := by
  rw [Bool.or_eq_true, lePf_iff, lePf_iff]
  rcases leN_total (f a) (f b) with h | h <;> rcases leN_cases h with h | h
  · exact .inl (.inl h)
  · rcases Nat.le_total a b with k | k
    · exact .inl (.inr ⟨h, k⟩)
    · exact .inr (.inr ⟨h.symm, k⟩)
  · exact .inr (.inl h)
  · rcases Nat.le_total a b with k | k
    · exact .inl (.inr ⟨h.symm, k⟩)
    · exact .inr (.inr ⟨h, k⟩)
theorem lePf_le {f : Nat → T} {a b : Nat} (h : lePf f a b = true) : leN (f a) (f b) := by
  rcases lePf_iff.mp h with h | ⟨h, _⟩
  · exact leN_lt h
  · rw [h]; exact .rf
theorem ordr_perm (f : Nat → T) (n : Nat) : (ordr f n).Perm (List.range n) := List.mergeSort_perm _ _
theorem ordr_pw (f : Nat → T) (n : Nat) : (ordr f n).Pairwise fun a b => lePf f a b = true := List.pairwise_mergeSort (lePf_trans f) (lePf_total f) _
theorem ordr_len (f : Nat → T) (n : Nat) : (ordr f n).length = n := by simpa using (ordr_perm f n).length_eq
theorem ordr_mem {f : Nat → T} {n k : Nat} : k ∈ ordr f n ↔ k < n := by simpa using (ordr_perm f n).mem_iff (a := k)
theorem ordr_nodup (f : Nat → T) (n : Nat) : (ordr f n).Nodup := (ordr_perm f n).nodup_iff.mpr List.nodup_range
theorem ordr_le (f : Nat → T) (n : Nat) : ((ordr f n).map f).Pairwise leN := by
  rw [List.pairwise_map]
  exact (ordr_pw f n).imp lePf_le
theorem ordr_uq {f : Nat → T} {n : Nat} {l : List Nat} (p : l.Perm (List.range n)) (h : l.Pairwise fun a b => lePf f a b = true) : l = ordr f n := by
  refine List.Perm.eq_of_pairwise (fun a b _ _ h1 h2 => ?_) h (ordr_pw f n) (p.trans (ordr_perm f n).symm)
  rcases lePf_iff.mp h1 with h1 | ⟨h1, k1⟩
  · rcases lePf_iff.mp h2 with h2 | ⟨h2, k2⟩
    · exact absurd (sto_N.tr _ _ _ h1 h2) (by rw [sto_N.ir]; decide)
    · rw [h2, sto_N.ir] at h1; cases h1
  · rcases lePf_iff.mp h2 with h2 | ⟨h2, k2⟩
    · rw [h1, sto_N.ir] at h2; cases h2
    · omega
theorem getD_get {α : Type} {l : List α} {i : Nat} {d : α} (h : i < l.length) : l.getD i d = l[i] := by simp [List.getD, h]
/-- the turn of a text from place k on -/
def rot (t : T) (k : Nat) : T := t.drop k ++ t.take k
theorem rot_len {t : T} {k : Nat} : (rot t k).length = t.length := by unfold rot; simp; omega
/-- the last sign of a turn -/
def rotL (t : T) (k : Nat) : Nat := (rot t k).getD (t.length - 1) 0
def mid (t : T) (k : Nat) : T := t.drop (k + 1) ++ t.take k
theorem mid_len {t : T} {k : Nat} (h : k < t.length) : (mid t k).length = t.length - 1 := by unfold mid; simp; omega
theorem rot_cons {t : T} {k : Nat} (h : k < t.length) : rot t k = t[k] :: mid t k := by
  unfold rot mid
  rw [List.drop_eq_getElem_cons h]; rfl
theorem rot_next {t : T} {k : Nat} (h : k < t.length) : rot t ((k + 1) % t.length) = mid t k ++ [t[k]] := by
  unfold rot mid
  by_cases c : k + 1 < t.length
  · rw [Nat.mod_eq_of_lt c, List.take_succ_eq_append_getElem h, List.append_assoc]
  · have : k + 1 = t.length := by omega
    rw [this, Nat.mod_self, List.drop_length]
    simp
    rw [this, List.take_length]
theorem rotL_next {t : T} {k : Nat} (h : k < t.length) : rotL t ((k + 1) % t.length) = t[k] := by
  unfold rotL
  rw [rot_next h]
  have := mid_len h
  simp [this]
/-- all turns unlike -/
def Apart (t : T) : Prop := ((ordr (rot t) t.length).map (rot t)).Pairwise fun a b => ltN a b = true
theorem apart_of {t : T} (h : ∀ i, i + 1 < t.length → (((ordr (rot t) t.length).map (rot t))[i + 1]? ≠ ((ordr (rot t) t.length).map (rot t))[i]?)) : Apart t := by
  have key : ∀ L : List T, L.Pairwise leN → (∀ i, i + 1 < L.length → L[i + 1]? ≠ L[i]?) → L.Pairwise fun a b => ltN a b = true := by
    intro L
    induction L with
    | nil => intro _ _; exact .nil
    | cons a r ih =>
      intro h1 h2
      obtain ⟨k1, k2⟩ := List.pairwise_cons.mp h1
      have i2 := ih k2 fun i hi => by have := h2 (i + 1) (by simpa using hi); simpa using this
      refine List.pairwise_cons.mpr ⟨fun c hc => ?_, i2⟩
      cases r with
      | nil => simp at hc
      | cons b r =>
        have ab : ltN a b = true := ltN_of (k1 b (by simp)) fun e => by
          have := h2 0 (by simp)
          simp [e] at this
        rcases List.mem_cons.mp hc with rfl | hc
        · exact ab
        · exact sto_N.tr _ _ _ ab ((List.pairwise_cons.mp i2).1 c hc)
  exact key _ (ordr_le _ _) fun i hi => h i (by simpa [ordr_len] using hi)
section
variable {t : T}
/-- where the next turn stands -/
def nxt (t : T) (i : Nat) : Nat := (ordr (rot t) t.length).idxOf (((ordr (rot t) t.length).getD i 0 + 1) % t.length)
theorem getD_lt {i : Nat} (h : i < t.length) : (ordr (rot t) t.length).getD i 0 < t.length := by
  have h' : i < (ordr (rot t) t.length).length := by rw [ordr_len]; exact h
  rw [getD_get h']
  exact ordr_mem.mp (List.getElem_mem h')
theorem nxt_lt {i : Nat} (h : i < t.length) : nxt t i < t.length := by
  unfold nxt
  have := List.idxOf_lt_length_iff.mpr (ordr_mem (f := rot t).mpr (Nat.mod_lt ((ordr (rot t) t.length).getD i 0 + 1) (by omega : 0 < t.length)))
  rwa [ordr_len] at this
theorem getD_idx {k : Nat} (h : k < t.length) : (ordr (rot t) t.length).getD ((ordr (rot t) t.length).idxOf k) 0 = k := by
  have := List.idxOf_lt_length_iff.mpr (ordr_mem (f := rot t).mpr h)
  rw [getD_get this, List.getElem_idxOf]
theorem getD_nxt {i : Nat} (h : i < t.length) : (ordr (rot t) t.length).getD (nxt t i) 0 = ((ordr (rot t) t.length).getD i 0 + 1) % t.length := getD_idx (Nat.mod_lt _ (by omega))
theorem getD_inj {i j : Nat} (hi : i < t.length) (hj : j < t.length) (e : (ordr (rot t) t.length).getD i 0 = (ordr (rot t) t.length).getD j 0) : i = j := by
  have hi' : i < (ordr (rot t) t.length).length := by rw [ordr_len]; exact hi
  have hj' : j < (ordr (rot t) t.length).length := by rw [ordr_len]; exact hj
  rw [getD_get hi', getD_get hj'] at e
  rcases Nat.lt_trichotomy i j with k | k | k
  · exact absurd e (List.pairwise_iff_getElem.mp (ordr_nodup (rot t) t.length) i j hi' hj' k)
  · exact k
  · exact absurd e.symm (List.pairwise_iff_getElem.mp (ordr_nodup (rot t) t.length) j i hj' hi' k)
theorem mod_inj {a b n : Nat} (ha : a < n) (hb : b < n) (e : (a + 1) % n = (b + 1) % n) : a = b := by
  by_cases h1 : a + 1 < n
  · rw [Nat.mod_eq_of_lt h1] at e
    by_cases h2 : b + 1 < n
    · rw [Nat.mod_eq_of_lt h2] at e; omega
    · have : b + 1 = n := by omega
      rw [this, Nat.mod_self] at e; omega
  · have q : a + 1 = n := by omega
    rw [q, Nat.mod_self] at e
    by_cases h2 : b + 1 < n
    · rw [Nat.mod_eq_of_lt h2] at e; omega
    · omega
theorem nxt_inj {i j : Nat} (hi : i < t.length) (hj : j < t.length) (e : nxt t i = nxt t j) : i = j := by
  have : (ordr (rot t) t.length).getD (nxt t i) 0 = (ordr (rot t) t.length).getD (nxt t j) 0 := by rw [e]
  rw [getD_nxt hi, getD_nxt hj] at this
  exact getD_inj hi hj (mod_inj (getD_lt hi) (getD_lt hj) this)
theorem nxt_sur {j : Nat} (hj : j < t.length) : ∃ i, i < t.length ∧ nxt t i = j := by
  have hk := getD_lt hj
  generalize hkk : (ordr (rot t) t.length).getD j 0 = k at hk
  have hm : (k + t.length - 1) % t.length < t.length := Nat.mod_lt _ (by omega)
  have hi : (ordr (rot t) t.length).idxOf ((k + t.length - 1) % t.length) < t.length := by
    have := List.idxOf_lt_length_iff.mpr (ordr_mem (f := rot t).mpr hm)
    rwa [ordr_len] at this
  refine ⟨_, hi, ?_⟩
  apply getD_inj (nxt_lt hi) hj
  rw [getD_nxt hi, getD_idx hm, hkk]
  by_cases c : k = 0
  · subst c
    rw [Nat.mod_eq_of_lt (show 0 + t.length - 1 < t.length by omega), show 0 + t.length - 1 + 1 = t.length by omega, Nat.mod_self]
  · rw [show k + t.length - 1 = (k - 1) + t.length by omega, Nat.add_mod_right, Nat.mod_eq_of_lt (show k - 1 < t.length by omega), show k - 1 + 1 = k by omega, Nat.mod_eq_of_lt hk]
theorem nxt_perm : ((List.range t.length).map (nxt t)).Perm (List.range t.length) := by
  refine (List.perm_ext_iff_of_nodup ?_ List.nodup_range).mpr fun j => ?_
  · show List.Pairwise _ _
    rw [List.pairwise_map]
    refine List.pairwise_lt_range.imp_of_mem fun {a b} ha hb h e => ?_
    have := nxt_inj (List.mem_range.mp ha) (List.mem_range.mp hb) e
    omega
  · rw [List.mem_map, List.mem_range]
    constructor
    · rintro ⟨i, hi, rfl⟩
      exact nxt_lt (List.mem_range.mp hi)
    · intro hj
      obtain ⟨i, hi, e⟩ := nxt_sur hj
      exact ⟨i, List.mem_range.mpr hi, e⟩
theorem apart_lt (A : Apart t) {i j : Nat} (h : i < j) (hj : j < t.length) : ltN (rot t ((ordr (rot t) t.length).getD i 0)) (rot t ((ordr (rot t) t.length).getD j 0)) = true := by
  unfold Apart at A
  rw [List.pairwise_map] at A
  have hi' : i < (ordr (rot t) t.length).length := by rw [ordr_len]; omega
  have hj' : j < (ordr (rot t) t.length).length := by rw [ordr_len]; exact hj
  rw [getD_get hi', getD_get hj']
  exact List.pairwise_iff_getElem.mp A i j hi' hj' h
theorem apart_of_lt (A : Apart t) {i j : Nat} (hi : i < t.length) (hj : j < t.length) (h : ltN (rot t ((ordr (rot t) t.length).getD i 0)) (rot t ((ordr (rot t) t.length).getD j 0)) = true) : i < j := by
  rcases Nat.lt_trichotomy i j with k | rfl | k
  · exact k
  · rw [sto_N.ir] at h; cases h
  · have := sto_N.tr _ _ _ h (apart_lt A k hi)
    rw [sto_N.ir] at this; cases this
/-- the last column's signs in order, each with its place: where the next turns stand -/
theorem back_ord (A : Apart t) : ordr (fun j => [rotL t ((ordr (rot t) t.length).getD j 0)]) t.length = (List.range t.length).map (nxt t) := by
  symm
  refine ordr_uq nxt_perm ?_
  rw [List.pairwise_map]
  refine List.pairwise_lt_range.imp_of_mem fun {i j} hi hj h => ?_
  have hi := List.mem_range.mp hi
  have hj := List.mem_range.mp hj
  have lt := apart_lt A h hj
  rw [rot_cons (getD_lt hi), rot_cons (getD_lt hj), ltN_cons] at lt
  rw [lePf_iff]
  simp only [getD_nxt hi, getD_nxt hj, rotL_next (getD_lt hi), rotL_next (getD_lt hj)]
  rcases lt with lt | ⟨e, lt⟩
  · exact .inl (ltN_cons.mpr (.inl lt))
  · refine .inr ⟨by rw [e], Nat.le_of_lt (apart_of_lt A (nxt_lt hi) (nxt_lt hj) ?_)⟩
    rw [getD_nxt hi, getD_nxt hj, rot_next (getD_lt hi), rot_next (getD_lt hj)]
    exact ltN_append _ _ (by rw [mid_len (getD_lt hi), mid_len (getD_lt hj)]) lt
/-- the walk back -/
def goes (t : T) : Nat → Nat
  | 0 => (ordr (rot t) t.length).idxOf 0
  | k + 1 => nxt t (goes t k)
theorem goes_at {k : Nat} (h : 0 < t.length) : goes t k < t.length ∧ (ordr (rot t) t.length).getD (goes t k) 0 = k % t.length := by
  induction k with
  | zero =>
    have := List.idxOf_lt_length_iff.mpr (ordr_mem (f := rot t).mpr h)
    rw [ordr_len] at this
    exact ⟨this, by rw [Nat.zero_mod]; exact getD_idx h⟩
  | succ k ih =>
    refine ⟨nxt_lt ih.1, ?_⟩
    show (ordr (rot t) t.length).getD (nxt t (goes t k)) 0 = _
    rw [getD_nxt ih.1, ih.2, Nat.mod_add_mod]
theorem goes_last {k : Nat} (h : k < t.length) : rotL t ((ordr (rot t) t.length).getD (goes t (k + 1)) 0) = t[k] := by
  obtain ⟨h1, h2⟩ := goes_at (t := t) (k := k) (by omega)
  show rotL t ((ordr (rot t) t.length).getD (nxt t (goes t k)) 0) = t[k]
  rw [getD_nxt h1, h2, Nat.mod_eq_of_lt h]
  exact rotL_next h
end
end TI
set_option Elab.async false
set_option linter.all false
set_option maxRecDepth 100000
set_option maxHeartbeats 4000000
/-! the evaluator by rewriting -/
namespace TI
open L2
open PySem (Operator CmpOp Const)
section
variable {ρ : List Sl} {d : D} {i j n : Nat} {a b c e : Ex} {es : Exs}
/-! ### terms -/
@[simp] theorem ev_var : ev (.var i) ρ = opt (vget ρ i) := by rw [ev]
@[simp] theorem ev_con {c : Const} : ev (.con c) ρ = conD c := by rw [ev]
@[simp] theorem ev_glo {x : PySem.Str} : ev (.glo x d) ρ = pure d := by rw [ev]
@[simp] theorem ev_bin {o : Operator} : ev (.bin o a b) ρ = (do binD o (← ev a ρ) (← ev b ρ)) := by rw [ev]
@[simp] theorem ev_neg : ev (.neg a) ρ = (do pure (.int (-(← asI (← ev a ρ))))) := by rw [ev]
@[simp] theorem ev_nt : ev (.nt a) ρ = (do pure (.bl (!(← asB (← ev a ρ))))) := by rw [ev]
@[simp] theorem ev_cmp {o : CmpOp} : ev (.cmp o a b) ρ = (do pure (.bl (← cmpD o (← ev a ρ) (← ev b ρ)))) := by rw [ev]
@[simp] theorem ev_cmp2 {o o' : CmpOp} : ev (.cmp2 o o' a b c) ρ = (do
    let x ← ev a ρ
    let y ← ev b ρ
    let k ← cmpD o x y
    if k = true then do pure (.bl (← cmpD o' y (← ev c ρ))) else pure (.bl false)) := by rw [ev]
@[simp] theorem ev_and : ev (.and es) ρ = evAnd es ρ := by rw [ev]
@[simp] theorem ev_or : ev (.or es) ρ = evOr es ρ := by rw [ev]
@[simp] theorem ev_ite : ev (.ite c a b) ρ = (do
    let k ← asB (← ev c ρ)
    if k = true then ev a ρ else ev b ρ) := by rw [ev]
@[simp] theorem ev_tup : ev (.tup es) ρ = (do
    let ds ← evs es ρ
    grd (decide (ds.length ≤ line)) (pure (.tup ds))) := by rw [ev]
@[simp] theorem ev_lst : ev (.lst es) ρ = (do
    let ds ← evs es ρ
    grd (decide (ds.length ≤ line)) (pure (.lst ds))) := by rw [ev]
@[simp] theorem ev_sub : ev (.sub a b) ρ = (do subD (← ev a ρ) (← ev b ρ)) := by rw [ev]
@[simp] theorem ev_slc {lo hi : Op} : ev (.slc a lo hi) ρ = (do
    let x ← ev a ρ
    let l ← evOp lo ρ
    let h ← evOp hi ρ
    slcD x l h) := by rw [ev]
@[simp] theorem ev_call {x : PySem.Str} {f : Sem} : ev (.call x f es) ρ = (do f (← evs es ρ)) := by rw [ev]
@[simp] theorem ev_blt {b : Bl} : ev (.blt b es) ρ = (do bltD b (← evs es ρ)) := by rw [ev]
@[simp] theorem ev_met {m : Mt} : ev (.met m a es) ρ = (do
    let x ← ev a ρ
    grd (recOk m x) (do metD m x (← evs es ρ))) := by rw [ev]
@[simp] theorem ev_isi {ts : List Ty} {one : Bool} : ev (.isi a ts one) ρ = (do
    let x ← ev a ρ
    grd (tyOk x) (grd (decide (ts.length ≤ line)) (pure (.bl (ts.any (isTy x)))))) := by rw [ev]
/-- what a comprehension does with an item -/
def cmpF (ρ : List Sl) (tg : Tg) (c : Op) (e : Ex) (own : List (PySem.Str × Nat)) (d : D) : M (Option D) := do
  let ρ' ← bindT tg d (wipeS ρ (own.map (·.2)))
  let k ← nox (evC c ρ')
  if k = true then do pure (some (← nox (ev e ρ'))) else pure none
@[simp] theorem ev_comp {tg : Tg} {it : It} {c : Op} {e : Ex} {own : List (PySem.Str × Nat)} : ev (.comp tg it c e own) ρ = (do
    let ds ← evIt it ρ
    grd (decide (ds.length ≤ line)) (do pure (.lst (← compL (cmpF ρ tg c e own) ds)))) := by first | (rw [ev]; done) | (rw [ev]; rfl)
def sscF (ρ : List Sl) (tg : Tg) (c : Op) (e : Ex) (own : List (PySem.Str × Nat)) (d : D) : M (Option Ky) := do
  let ρ' ← bindT tg d (wipeS ρ (own.map (·.2)))
  let k ← nox (evC c ρ')
  if k = true then do
    let y ← nox (ev e ρ')
    let q ← opt (kyOf y)
    pure (some q) else pure none
@[simp] theorem ev_ssc {tg : Tg} {it : It} {c : Op} {e : Ex} {own : List (PySem.Str × Nat)} : ev (.ssc tg it c e own) ρ = (do
    let ds ← evIt it ρ
    grd (decide (ds.length ≤ 4000)) (do
      let ks ← compL (sscF ρ tg c e own) ds
      grd (srtOk ((ks.foldl addK []).map Ky.d)) (pure (.lst (sortD ((ks.foldl addK []).map Ky.d)))))) := by first | (rw [ev]; done) | (rw [ev]; rfl)
@[simp] theorem ev_dic {t : Bool} : ev (.dic t) ρ = pure (if t = true then .dT [] [] else .dK [] []) := by rw [ev]
@[simp] theorem evs_nil : evs .nil ρ = pure [] := by rw [evs]
@[simp] theorem evs_cons : evs (.cons e es) ρ = (do
    let d ← ev e ρ
    let ds ← evs es ρ
    pure (d :: ds)) := by rw [evs]
@[simp] theorem evAnd_one : evAnd (.cons e .nil) ρ = ev e ρ := by rw [evAnd]; simp
@[simp] theorem evAnd_cons : evAnd (.cons e (.cons a es)) ρ = (do
    let d ← ev e ρ
    let k ← asB d
    if k = true then evAnd (.cons a es) ρ else pure (.bl false)) := by rw [evAnd]
@[simp] theorem evOr_one : evOr (.cons e .nil) ρ = ev e ρ := by rw [evOr]; simp
@[simp] theorem evOr_cons : evOr (.cons e (.cons a es)) ρ = (do
    let d ← ev e ρ
    let k ← asB d
    if k = true then pure (.bl true) else evOr (.cons a es) ρ) := by rw [evOr]
@[simp] theorem evOp_no : evOp .no ρ = pure none := by rw [evOp]
@[simp] theorem evOp_so : evOp (.so e) ρ = (do pure (some (← asI (← ev e ρ)))) := by rw [evOp]
@[simp] theorem evC_no : evC .no ρ = pure true := by rw [evC]
@[simp] theorem evC_so : evC (.so e) ρ = (do asB (← ev e ρ)) := by rw [evC]
@[simp] theorem evIt_of : evIt (.of e) ρ = (do itemsD (← ev e ρ)) := by rw [evIt]
@[simp] theorem evIt_rng : evIt (.rng es) ρ = (do rngOf (← evs es ρ)) := by rw [evIt]
@[simp] theorem evIt_enu : evIt (.enu e) ρ = (do pure (enumFrom' 0 (← itemsD (← ev e ρ)))) := by rw [evIt]
@[simp] theorem evIt_zip : evIt (.zip a b) ρ = (do
    let x ← ev a ρ
    let y ← ev b ρ
    zip2 x y) := by rw [evIt]
@[simp] theorem evIt_rev : evIt (.rev e) ρ = (do pure (← seqD (← ev e ρ)).reverse) := by rw [evIt]
end
/-! ### what is new -/
section
variable {a b c e : Ex} {es : Exs} {i : Nat}
@[simp] theorem fresh_lst : (Ex.lst es).fresh = 1 := by rw [Ex.fresh]
@[simp] theorem fresh_dic {t : Bool} : (Ex.dic t).fresh = 1 := by rw [Ex.fresh]
@[simp] theorem fresh_bin {o : Operator} : (Ex.bin o a b).fresh = 1 := by rw [Ex.fresh]
@[simp] theorem fresh_ssc {tg : Tg} {it : It} {c : Op} {own : List (PySem.Str × Nat)} : (Ex.ssc tg it c e own).fresh = 1 := by rw [Ex.fresh]
@[simp] theorem fresh_keyl {j : Nat} : (Ex.keyl i j).fresh = 1 := by rw [Ex.fresh]
@[simp] theorem fresh_comp {tg : Tg} {it : It} {c : Op} {own : List (PySem.Str × Nat)} : (Ex.comp tg it c e own).fresh = if e.fresh = 0 then 1 else 2 := by rw [Ex.fresh]
@[simp] theorem fresh_list : (Ex.blt .list es).fresh = 1 := by rw [Ex.fresh]
@[simp] theorem fresh_sorted : (Ex.blt .sorted es).fresh = 1 := by rw [Ex.fresh]
end
@[simp] theorem kids_lst {xs : List D} : (D.lst xs).kids = xs := rfl
@[simp] theorem kids_tup {xs : List D} : (D.tup xs).kids = xs := rfl
@[simp] theorem kids_dK {k : List Ky} {xs : List D} : (D.dK k xs).kids = xs := rfl
@[simp] theorem cont_lst {xs : List D} : isCont (.lst xs) = true := rfl
@[simp] theorem cont_dK {k : List Ky} {xs : List D} : isCont (.dK k xs) = true := rfl
@[simp] theorem cont_dT {k : List (List Ky)} {xs : List D} : isCont (.dT k xs) = true := rfl
@[simp] theorem pureL_nil : D.pureL [] = true := rfl
@[simp] theorem pureL_cons {d : D} {ds : List D} : D.pureL (d :: ds) = (d.pure && D.pureL ds) := rfl
/-! ### slots read -/
section
variable {a b c e : Ex} {es : Exs} {i : Nat}
@[simp] theorem vs_var : (Ex.var i).vs = [i] := by rw [Ex.vs]
@[simp] theorem vs_con {c : Const} : (Ex.con c).vs = [] := by rw [Ex.vs]
@[simp] theorem vs_glo {x : PySem.Str} {d : D} : (Ex.glo x d).vs = [] := by rw [Ex.vs]
@[simp] theorem vs_dic {t : Bool} : (Ex.dic t).vs = [] := by rw [Ex.vs]
@[simp] theorem vs_bin {o : Operator} : (Ex.bin o a b).vs = a.vs ++ b.vs := by rw [Ex.vs]
@[simp] theorem vs_cmp {o : CmpOp} : (Ex.cmp o a b).vs = a.vs ++ b.vs := by rw [Ex.vs]
@[simp] theorem vs_sub : (Ex.sub a b).vs = a.vs ++ b.vs := by rw [Ex.vs]
@[simp] theorem vs_neg : (Ex.neg a).vs = a.vs := by rw [Ex.vs]
@[simp] theorem vs_nt : (Ex.nt a).vs = a.vs := by rw [Ex.vs]
@[simp] theorem vs_rvs : (Ex.rvs a).vs = a.vs := by rw [Ex.vs]
@[simp] theorem vs_isi {t : List Ty} {o : Bool} : (Ex.isi a t o).vs = a.vs := by rw [Ex.vs]
@[simp] theorem vs_cmp2 {o o' : CmpOp} : (Ex.cmp2 o o' a b c).vs = a.vs ++ (b.vs ++ c.vs) := by rw [Ex.vs]
@[simp] theorem vs_ite : (Ex.ite a b c).vs = a.vs ++ (b.vs ++ c.vs) := by rw [Ex.vs]
@[simp] theorem vs_and : (Ex.and es).vs = es.vs := by rw [Ex.vs]
@[simp] theorem vs_or : (Ex.or es).vs = es.vs := by rw [Ex.vs]
@[simp] theorem vs_tup : (Ex.tup es).vs = es.vs := by rw [Ex.vs]
@[simp] theorem vs_lst : (Ex.lst es).vs = es.vs := by rw [Ex.vs]
@[simp] theorem vs_call {x : PySem.Str} {f : Sem} : (Ex.call x f es).vs = es.vs := by rw [Ex.vs]
@[simp] theorem vs_blt {f : Bl} : (Ex.blt f es).vs = es.vs := by rw [Ex.vs]
@[simp] theorem vs_slc {lo hi : Op} : (Ex.slc a lo hi).vs = a.vs ++ (lo.vs ++ hi.vs) := by rw [Ex.vs]
@[simp] theorem vs_met {m : Mt} : (Ex.met m a es).vs = a.vs ++ es.vs := by rw [Ex.vs]
def fltN (own : List Nat) (vs : List Nat) : List Nat := vs.filter fun i => !own.contains i
@[simp] theorem fltN_nil {own : List Nat} : fltN own [] = [] := rfl
@[simp] theorem fltN_cons {own : List Nat} {v : Nat} {vs : List Nat} : fltN own (v :: vs) = if own.contains v = true then fltN own vs else v :: fltN own vs := by
  unfold fltN
  rw [List.filter_cons]
  cases own.contains v <;> rfl
@[simp] theorem vs_comp {tg : Tg} {it : It} {c : Op} {own : List (PySem.Str × Nat)} : (Ex.comp tg it c e own).vs = it.vs ++ fltN (own.map (·.2)) (c.vs ++ e.vs) := by first | (rw [Ex.vs]; done) | (rw [Ex.vs]; rfl)
@[simp] theorem vs_ssc {tg : Tg} {it : It} {c : Op} {own : List (PySem.Str × Nat)} : (Ex.ssc tg it c e own).vs = it.vs ++ fltN (own.map (·.2)) (c.vs ++ e.vs) := by first | (rw [Ex.vs]; done) | (rw [Ex.vs]; rfl)
@[simp] theorem vs_keyl {j : Nat} : (Ex.keyl i j).vs = [i] := by rw [Ex.vs]
@[simp] theorem vs_mxd {j : Int} : (Ex.mxd a j).vs = a.vs := by rw [Ex.vs]
@[simp] theorem vss_nil : Exs.nil.vs = [] := by rw [Exs.vs]
@[simp] theorem vss_cons : (Exs.cons e es).vs = e.vs ++ es.vs := by rw [Exs.vs]
@[simp] theorem vso_no : Op.no.vs = [] := by rw [Op.vs]
@[simp] theorem vso_so : (Op.so e).vs = e.vs := by rw [Op.vs]
@[simp] theorem vsi_of : (It.of e).vs = e.vs := by rw [It.vs]
@[simp] theorem vsi_enu : (It.enu e).vs = e.vs := by rw [It.vs]
@[simp] theorem vsi_rev : (It.rev e).vs = e.vs := by rw [It.vs]
@[simp] theorem vsi_rng : (It.rng es).vs = es.vs := by rw [It.vs]
@[simp] theorem vsi_zip : (It.zip a b).vs = a.vs ++ b.vs := by rw [It.vs]
@[simp] theorem lk_of : (It.of e).lk = e.vs := by unfold It.lk; simp
@[simp] theorem lk_enu : (It.enu e).lk = e.vs := by unfold It.lk; simp
@[simp] theorem lk_rev : (It.rev e).lk = e.vs := by unfold It.lk; simp
@[simp] theorem lk_zip : (It.zip a b).lk = a.vs ++ b.vs := by unfold It.lk; simp
@[simp] theorem lk_rng : (It.rng es).lk = [] := rfl
end
@[simp] theorem frz_nil {ρ : List Sl} : frz ρ [] = ρ := rfl
@[simp] theorem frz_cons {ρ : List Sl} {v : Nat} {vs : List Nat} : frz ρ (v :: vs) = frz (frz1 ρ v) vs := rfl
/-! ### slots -/
@[simp] theorem vget_0 {s : Sl} {ρ : List Sl} : vget (s :: ρ) 0 = s.d := rfl
@[simp] theorem vget_s {s : Sl} {ρ : List Sl} {i : Nat} : vget (s :: ρ) (i + 1) = vget ρ i := rfl
@[simp] theorem getSl_0 {s : Sl} {ρ : List Sl} : (s :: ρ)[0]? = some s := rfl
@[simp] theorem getSl_s {s : Sl} {ρ : List Sl} {i : Nat} : (s :: ρ)[i + 1]? = ρ[i]? := by simp
@[simp] theorem d_val {d : D} : (Sl.val d).d = some d := rfl
@[simp] theorem d_own {d : D} : (Sl.own d).d = some d := rfl
@[simp] theorem d_ow2 {d : D} : (Sl.ow2 d).d = some d := rfl
@[simp] theorem wipeS_nil {ρ : List Sl} : wipeS ρ [] = ρ := rfl
@[simp] theorem wipeS_cons {ρ : List Sl} {v : Nat} {vs : List Nat} : wipeS ρ (v :: vs) = (wipeS ρ vs).set v .no := rfl
@[simp] theorem bindT_nm {i : Nat} {d : D} {ρ : List Sl} : bindT (.nm i) d ρ = pure (ρ.set i (.val d)) := by rw [bindT]
@[simp] theorem bindT_tp {ts : Tgs} {ds : List D} {ρ : List Sl} : bindT (.tp ts) (.tup ds) ρ = bindTs ts ds ρ := by rw [bindT]
@[simp] theorem bindTs_nil {ρ : List Sl} : bindTs .nil [] ρ = pure ρ := by rw [bindTs]
@[simp] theorem bindTs_cons {t : Tg} {ts : Tgs} {d : D} {ds : List D} {ρ : List Sl} : bindTs (.cons t ts) (d :: ds) ρ = (do bindTs ts ds (← bindT t d ρ)) := by rw [bindTs]
/-! ### constants, operators -/
@[simp] theorem conD_none : conD .none = pure .non := rfl
@[simp] theorem conD_bool {b : Bool} : conD (.bool b) = pure (.bl b) := rfl
@[simp] theorem conD_int {i : Int} : conD (.int i) = pure (.int i) := rfl
@[simp] theorem conD_str {x : PySem.Str} : conD (.str x) = pure (.str x.cps.toList) := rfl
@[simp] theorem asB_bl {b : Bool} : asB (.bl b) = pure b := rfl
@[simp] theorem asI_int {i : Int} : asI (.int i) = pure i := rfl
@[simp] theorem grd_dec {α : Type} {p : Prop} [Decidable p] {m : M α} (h : p) : grd (decide p) m = m := if_pos (decide_eq_true h)
@[simp] theorem grd_t {α : Type} {m : M α} : grd true m = m := rfl
@[simp] theorem bin_addI {i j : Int} : binD .Add (.int i) (.int j) = pure (.int (i + j)) := rfl
@[simp] theorem bin_addS {s t : List Nat} (h : s.length + t.length ≤ line) : binD .Add (.str s) (.str t) = pure (.str (s ++ t)) := grd_true (decide_eq_true h)
@[simp] theorem bin_addL {s t : List D} (h : s.length + t.length ≤ line) : binD .Add (.lst s) (.lst t) = pure (.lst (s ++ t)) := grd_true (decide_eq_true h)
@[simp] theorem bin_addT {s t : List D} (h : s.length + t.length ≤ line) : binD .Add (.tup s) (.tup t) = pure (.tup (s ++ t)) := grd_true (decide_eq_true h)
@[simp] theorem bin_subI {i j : Int} : binD .Sub (.int i) (.int j) = pure (.int (i - j)) := rfl
@[simp] theorem bin_mulI {i j : Int} (h : cmulB i j = true) : binD .Mult (.int i) (.int j) = pure (.int (i * j)) := grd_true h
theorem bin_mulN {i j : Nat} (h : i < 2 ^ 64) : binD .Mult (.int i) (.int j) = pure (.int (i * j)) := bin_mulI (by unfold cmulB; simp; omega)
@[simp] theorem bin_mulL {xs : List D} {k : Int} (h : -(2 ^ 63) ≤ k ∧ k < 2 ^ 63 ∧ xs.length * k.toNat ≤ line) : binD .Mult (.lst xs) (.int k) = pure (.lst (List.replicate k.toNat xs).flatten) := grd_true (decide_eq_true h)
@[simp] theorem bin_div {i j : Int} (h : 0 < j ∧ j < 1073741824) : binD .FloorDiv (.int i) (.int j) = pure (.int (i / j)) := grd_true (decide_eq_true h)
@[simp] theorem bin_mod {i j : Int} (h : 0 < j) : binD .Mod (.int i) (.int j) = pure (.int (i % j)) := grd_true (decide_eq_true h)
@[simp] theorem cmp_eq {a b : D} : cmpD .Eq a b = eqD a b := rfl
@[simp] theorem cmp_ne {a b : D} : cmpD .NotEq a b = (do pure (!(← eqD a b))) := rfl
@[simp] theorem cmp_lt {i j : Int} : cmpD .Lt (.int i) (.int j) = pure (decide (i < j)) := rfl
@[simp] theorem cmp_le {i j : Int} : cmpD .LtE (.int i) (.int j) = pure (decide (i ≤ j)) := rfl
@[simp] theorem cmp_gt {i j : Int} : cmpD .Gt (.int i) (.int j) = pure (decide (j < i)) := rfl
@[simp] theorem cmp_ge {i j : Int} : cmpD .GtE (.int i) (.int j) = pure (decide (j ≤ i)) := rfl
@[simp] theorem cmp_ltS {i j : List Nat} : cmpD .Lt (.str i) (.str j) = pure (ltS i j) := rfl
@[simp] theorem cmp_in {a b : D} : cmpD .In a b = inD a b := rfl
@[simp] theorem cmp_nin {a b : D} : cmpD .NotIn a b = (do pure (!(← inD a b))) := rfl
@[simp] theorem cmp_is {a : D} : cmpD .Is a .non = pure (match a with | .non => true | _ => false) := rfl
@[simp] theorem cmp_isn {a : D} : cmpD .IsNot a .non = pure (match a with | .non => false | _ => true) := rfl
@[simp] theorem eqD_int {i j : Int} : eqD (.int i) (.int j) = pure (i == j) := rfl
@[simp] theorem eqD_str {i j : List Nat} : eqD (.str i) (.str j) = pure (i == j) := rfl
@[simp] theorem eqD_bl {i j : Bool} : eqD (.bl i) (.bl j) = pure (i == j) := rfl
@[simp] theorem sub_lst {xs : List D} {i : Int} : subD (.lst xs) (.int i) = opt (atI xs i) := rfl
@[simp] theorem sub_tup {xs : List D} {i : Int} : subD (.tup xs) (.int i) = opt (atI xs i) := rfl
theorem sub_lstN {xs : List D} {k : Nat} (h : k < xs.length) : subD (.lst xs) (.int k) = pure xs[k] := by rw [sub_lst, atI_n h]; rfl
theorem sub_tupN {xs : List D} {k : Nat} (h : k < xs.length) : subD (.tup xs) (.int k) = pure xs[k] := by rw [sub_tup, atI_n h]; rfl
theorem sub_strN {s : List Nat} {k : Nat} (h : k < s.length) (hl : s.length ≤ line) : subD (.str s) (.int k) = pure (.str [s[k]]) := by
  show grd (decide (s.length ≤ line)) (match atI s k with
    | some c => pure (D.str [c])
    | none => M.stk) = _
  rw [grd_dec hl, atI_n h]
@[simp] theorem slc_str {s : List Nat} {lo hi : Option Int} (h : s.length ≤ line) : slcD (.str s) lo hi = pure (.str (cutL s lo hi)) := grd_true (decide_eq_true h)
@[simp] theorem slc_lst {s : List D} {lo hi : Option Int} : slcD (.lst s) lo hi = pure (.lst (cutL s lo hi)) := rfl
@[simp] theorem slc_tup {s : List D} {lo hi : Option Int} : slcD (.tup s) lo hi = pure (.tup (cutL s lo hi)) := rfl
@[simp] theorem blt_lenS {s : List Nat} (h : s.length ≤ line) : bltD .len [.str s] = pure (.int s.length) := grd_true (decide_eq_true h)
@[simp] theorem blt_lenL {s : List D} : bltD .len [.lst s] = pure (.int s.length) := rfl
@[simp] theorem blt_lenT {s : List D} : bltD .len [.tup s] = pure (.int s.length) := rfl
@[simp] theorem blt_lenK {k : List Ky} {s : List D} : bltD .len [.dK k s] = pure (.int k.length) := rfl
@[simp] theorem blt_sum {γ : Type} {f : γ → Int} {l : List γ} : bltD .sum [.lst (l.map fun x => D.int (f x))] = pure (.int (l.map f).sum) := by
  show (match intsOf _ with
    | some ns => pure (D.int ns.sum)
    | none => M.stk) = _
  rw [intsOf_map]
@[simp] theorem blt_sumT {γ : Type} {f : γ → Int} {l : List γ} : bltD .sum [.tup (l.map fun x => D.int (f x))] = pure (.int (l.map f).sum) := by
  show (match intsOf _ with
    | some ns => pure (D.int ns.sum)
    | none => M.stk) = _
  rw [intsOf_map]
@[simp] theorem blt_max {i j : Int} : bltD .max [.int i, .int j] = pure (.int (if j > i then j else i)) := rfl
@[simp] theorem blt_min {i j : Int} : bltD .min [.int i, .int j] = pure (.int (if j < i then j else i)) := rfl
@[simp] theorem blt_abs {i : Int} : bltD .abs [.int i] = pure (.int (if i < 0 then -i else i)) := rfl
@[simp] theorem blt_int {i : Int} : bltD .int [.int i] = pure (.int i) := rfl
@[simp] theorem blt_intB {b : Bool} : bltD .int [.bl b] = pure (.int (if b then 1 else 0)) := rfl
@[simp] theorem blt_tupL {s : List D} : bltD .tuple [.lst s] = pure (.tup s) := rfl
@[simp] theorem blt_tupT {s : List D} : bltD .tuple [.tup s] = pure (.tup s) := rfl
@[simp] theorem blt_lstL {s : List D} : bltD .list [.lst s] = pure (.lst s) := rfl
@[simp] theorem blt_lstT {s : List D} : bltD .list [.tup s] = pure (.lst s) := rfl
theorem blt_srt {s : List D} (h : srtOk s = true) : bltD .sorted [.lst s] = pure (.lst (sortD s)) := grd_true h
theorem blt_srtK {k : List Ky} {s : List D} (h : srtOk (k.map Ky.d) = true) : bltD .sorted [.dK k s] = pure (.lst (sortD (k.map Ky.d))) := grd_true h
@[simp] theorem rec_join {s : List Nat} : recOk .join (.str s) = true := rfl
@[simp] theorem rec_getK {k : List Ky} {s : List D} : recOk .get (.dK k s) = true := rfl
theorem met_join {γ : Type} {f : γ → List Nat} {l : List γ} (h : (l.map f).flatten.length ≤ line) : metD .join (.str []) [.lst (l.map fun x => D.str (f x))] = pure (.str (l.map f).flatten) := by
  show (match strsOf _ with
    | some ss => grd (decide (sumLen ss + ss.length * ([] : List Nat).length ≤ line)) (pure (D.str (joinS [] ss)))
    | none => M.stk) = _
  rw [strsOf_map]
  show grd (decide (sumLen (l.map f) + (l.map f).length * 0 ≤ line)) (pure (D.str (joinS [] (l.map f)))) = _
  rw [joinS_nil, sumLen_flat, Nat.mul_zero, Nat.add_zero, grd_dec h]
@[simp] theorem items_lst {s : List D} : itemsD (.lst s) = pure s := rfl
@[simp] theorem items_tup {s : List D} : itemsD (.tup s) = pure s := rfl
@[simp] theorem items_str {s : List Nat} : itemsD (.str s) = pure (s.map fun c => .str [c]) := rfl
@[simp] theorem seqD_lst {s : List D} : seqD (.lst s) = pure s := rfl
@[simp] theorem zip2_lst {s t : List D} : zip2 (.lst s) (.lst t) = pure (zipD s t) := rfl
@[simp] theorem zip2_tup {s t : List D} : zip2 (.tup s) (.tup t) = pure (zipD s t) := rfl
theorem rng_int {i : Int} (h : i ≤ line) (h0 : -4611686018427387904 ≤ i) : rngOf [.int i] = pure ((List.range i.toNat).map fun k : Nat => D.int k) := by
  show grd (smallB i) (pure (rngD 0 1 i.toNat)) = _
  rw [rngD0]
  refine grd_true ?_
  unfold smallB line at *
  simp; omega
theorem rng_nat {n : Nat} (h : n ≤ line) : rngOf [.int n] = pure ((List.range n).map fun k : Nat => D.int k) := by
  rw [rng_int (by omega) (by omega)]; rfl
/-! ### statements -/
section
variable {ρ : List Sl} {i : Nat} {c e k : Ex} {s : St} {ss a b : Sts}
@[simp] theorem exSs_nil : exSs .nil ρ = pure (.nx ρ) := by rw [exSs]
@[simp] theorem exSs_cons : exSs (.cons s ss) ρ = (do
    match ← exS s ρ with
    | .nx ρ' => exSs ss ρ'
    | o => pure o) := by first | (rw [exSs]; done) | (rw [exSs]; rfl)
theorem exSs_nx {ρ' : List Sl} (h : exS s ρ = pure (.nx ρ')) : exSs (.cons s ss) ρ = exSs ss ρ' := by rw [exSs_cons, h]; rfl
theorem exSs_rt {d : D} (h : exS s ρ = pure (.rt d)) : exSs (.cons s ss) ρ = pure (.rt d) := by rw [exSs_cons, h]; rfl
@[simp] theorem exS_set0 : exS (.set 0 i e) ρ = lif (ev e ρ) ρ fun d => pure (.nx ((shr ρ e.vs d.pure).set i (.val d))) := by rw [exS]
@[simp] theorem exS_set1 : exS (.set 1 i e) ρ = lif (ev e ρ) ρ fun d => grd (decide (1 ≤ e.fresh) && (isCont d && D.pureL d.kids)) (pure (.nx (ρ.set i (.own d)))) := by rw [exS]
@[simp] theorem exS_set2 : exS (.set 2 i e) ρ = lif (ev e ρ) ρ fun d => grd (decide (1 ≤ e.fresh) && (isCont d && (d.kids.isEmpty || (decide (2 ≤ e.fresh) && (d.kids.all isCont && d.kids.all fun x => D.pureL x.kids))))) (pure (.nx (ρ.set i (.ow2 d)))) := by rw [exS]
@[simp] theorem exS_unp {ts : Tgs} : exS (.unp ts e) ρ = lif (ev e ρ) ρ (fun d => (do pure (.nx (← bindT (.tp ts) d (shr ρ e.vs d.pure))))) := by rw [exS]
@[simp] theorem exS_exp : exS (.exp e) ρ = lif (ev e ρ) ρ fun _ => pure (.nx ρ) := by rw [exS]
@[simp] theorem exS_ret : exS (.ret e) ρ = lif (ev e ρ) ρ fun d => pure (.rt d) := by rw [exS]
@[simp] theorem exS_ife : exS (.ife c a b) ρ = lif (do asB (← ev c ρ)) ρ fun k => if k = true then exSs a ρ else exSs b ρ := by rw [exS]
/-- a loop's test and body, not looked into before they run -/
def whlC (c : Ex) (ρ : List Sl) : M Bool := do asB (← ev c ρ)
def whlB (a : Sts) (ρ : List Sl) : M Out := exSs a ρ
def forB (tg : Tg) (a : Sts) (d : D) (ρ : List Sl) : M Out := do exSs a (← bindT tg d ρ)
@[simp] theorem whlC_eq : whlC c ρ = (do asB (← ev c ρ)) := rfl
@[simp] theorem whlB_eq : whlB a ρ = exSs a ρ := rfl
@[simp] theorem forB_eq {tg : Tg} {d : D} : forB tg a d ρ = (do exSs a (← bindT tg d ρ)) := rfl
@[simp] theorem exS_whl : exS (.whl c a) ρ = whlL (whlC c) (whlB a) fuel ρ := by first | (rw [exS]; done) | (rw [exS]; rfl)
@[simp] theorem exS_for {tg : Tg} {it : It} : exS (.for_ tg it a) ρ = lif (evIt it ρ) ρ fun ds => forL (forB tg a) ds (frz ρ it.lk) := by first | (rw [exS]; done) | (rw [exS]; rfl)
@[simp] theorem exS_app : exS (.app i e) ρ = (match ρ[i]? with
    | some (.own (.lst _)) => lif (ev e ρ) ρ fun d => appD (shr ρ e.vs d.pure) i d
    | _ => M.stk) := by first | (rw [exS]; done) | (rw [exS]; rfl)
@[simp] theorem exS_sti : exS (.sti i k e) ρ = (match ρ[i]? with
    | some (.own _) => lif (ev e ρ) ρ fun d => lif (ev k ρ) ρ fun q => stiD (shr ρ e.vs d.pure) i q d
    | _ => M.stk) := by first | (rw [exS]; done) | (rw [exS]; rfl)
@[simp] theorem exS_apk : exS (.apk i k e) ρ = (match ρ[i]? with
    | some (.ow2 d) => lif (ev k ρ) ρ fun q => kidL d q fun n ys => lif (ev e ρ) ρ fun x => apkD (shr ρ e.vs x.pure) i n ys x
    | _ => M.stk) := by first | (rw [exS]; done) | (rw [exS]; rfl)
@[simp] theorem exS_stf : exS (.stf i k e) ρ = (match ρ[i]? with
    | some (.ow2 d) => lif (ev e ρ) ρ fun x => lif (ev k ρ) ρ fun q => grd (decide (1 ≤ e.fresh) && (isCont x && (D.pureL x.kids && decide (d.kids.length < line)))) (match putKid d q x with
      | some d' => pure (.nx (ρ.set i (.ow2 d')))
      | none => M.stk)
    | _ => M.stk) := by first | (rw [exS]; done) | (rw [exS]; rfl)
@[simp] theorem exS_st2 {j : Ex} : exS (.st2 i k j e) ρ = (match ρ[i]? with
    | some (.ow2 d) => lif (ev e ρ) ρ fun x => lif (ev k ρ) ρ fun q => kidL d q fun n ys => lif (ev j ρ) ρ fun jj => st2D (shr ρ e.vs x.pure) i n ys jj x
    | _ => M.stk) := by first | (rw [exS]; done) | (rw [exS]; rfl)
@[simp] theorem exS_brk : exS .brk ρ = pure (.bk ρ) := by rw [exS]
@[simp] theorem exS_cnt : exS .cnt ρ = pure (.ct ρ) := by rw [exS]
@[simp] theorem exS_pas : exS .pas ρ = pure (.nx ρ) := by rw [exS]
theorem shr_no {vs : List Nat} {p : Bool} (h : noOwn ρ vs = true) : shr ρ vs p = ρ := by unfold shr; rw [h]; rfl
def notO : Option Sl → Bool
  | some (.own _) | some (.ow2 _) => false
  | _ => true
@[simp] theorem notO_own {d : D} : notO (some (.own d)) = false := rfl
@[simp] theorem notO_ow2 {d : D} : notO (some (.ow2 d)) = false := rfl
@[simp] theorem notO_val {d : D} : notO (some (.val d)) = true := rfl
@[simp] theorem notO_no : notO (some .no) = true := rfl
@[simp] theorem notO_none : notO none = true := rfl
@[simp] theorem noOwn_nil : noOwn ρ [] = true := rfl
@[simp] theorem noOwn_cons {v : Nat} {vs : List Nat} : noOwn ρ (v :: vs) = (notO ρ[v]? && noOwn ρ vs) := rfl
@[simp] theorem shr_if {vs : List Nat} {p : Bool} : shr ρ vs p = if (noOwn ρ vs || p) = true then ρ else frz ρ vs := rfl
@[simp] theorem pure_int {i : Int} : (D.int i).pure = true := rfl
@[simp] theorem pure_str {i : List Nat} : (D.str i).pure = true := rfl
@[simp] theorem pure_bl {i : Bool} : (D.bl i).pure = true := rfl
@[simp] theorem pure_non : D.non.pure = true := rfl
@[simp] theorem pure_tup {ds : List D} : (D.tup ds).pure = D.pureL ds := rfl
@[simp] theorem pure_lst {ds : List D} : (D.lst ds).pure = false := rfl
theorem frz_no {vs : List Nat} (h : noOwn ρ vs = true) : frz ρ vs = ρ := by
  induction vs with
  | nil => rfl
  | cons v vs ih =>
    unfold noOwn at h ih
    rw [List.all_cons, Bool.and_eq_true] at h
    unfold frz
    have : frz1 ρ v = ρ := by
      unfold frz1
      have h1 := h.1
      split at h1 <;> simp_all
    rw [this]; exact ih h.2
end
@[simp] theorem frz1_eq {ρ : List Sl} {i : Nat} : frz1 ρ i = (match ρ[i]? with
  | some (.own d) | some (.ow2 d) => ρ.set i (.val d)
  | _ => ρ) := rfl
theorem run_eq {f : Fn} {ds : List D} (h : ds.length = f.n) : TI.run f ds = (do
    match ← exSs f.body (ds.map Sl.val ++ List.replicate (f.m - f.n) Sl.no) with
    | .rt d => pure d
    | .nx _ => pure .non
    | .ex e _ => M.thr e
    | _ => M.stk) := if_pos h
theorem ite_pure {α : Type} {c : Prop} [Decidable c] {a b : α} : (if c then (pure a : M α) else pure b) = pure (if c then a else b) := by split <;> rfl
/-! ### loops -/
theorem whl_go {α : Type} {c : List Sl → M Bool} {b : List Sl → M Out} {f : Out → M α} {r : M α} {k : Nat} {ρ : List Sl} (I : Nat → List Sl → Prop) (E : List Sl → Prop) (n : Nat) (hI : I n ρ) (hk : n < k)
    (step : ∀ n ρ, I n ρ → (c ρ = pure false ∧ E ρ) ∨ ∃ ρ' m, c ρ = pure true ∧ (b ρ = pure (.nx ρ') ∨ b ρ = pure (.ct ρ')) ∧ m < n ∧ I m ρ') (fin : ∀ ρ', E ρ' → f (.nx ρ') = r) : (whlL c b k ρ >>= f) = r := by
  obtain ⟨ρ', e, h⟩ := whlL_inv I E step k n ρ hI hk
  rw [e, pure_bind]; exact fin ρ' h
theorem for_go {α : Type} {b : D → List Sl → M Out} {f : Out → M α} {r : M α} {ds : List D} {ρ : List Sl} (I : Nat → List Sl → Prop) (h0 : I 0 ρ)
    (step : ∀ i (h : i < ds.length) ρ, I i ρ → ∃ ρ', (b ds[i] ρ = pure (.nx ρ') ∨ b ds[i] ρ = pure (.ct ρ')) ∧ I (i + 1) ρ') (fin : ∀ ρ', I ds.length ρ' → f (.nx ρ') = r) : (forL b ds ρ >>= f) = r := by
  obtain ⟨ρ', e, h⟩ := forL_inv I h0 step
  rw [e, pure_bind]; exact fin ρ' h
theorem for_ex {α : Type} {b : D → List Sl → M Out} {f : Out → M α} {r : M α} {ds : List D} {ρ : List Sl} (I : Nat → List Sl → Prop) (E : Out → Prop) (h0 : I 0 ρ)
    (step : ∀ i (h : i < ds.length) ρ, I i ρ → ∃ u, b ds[i] ρ = pure u ∧ match u with
      | .nx ρ' | .ct ρ' => I (i + 1) ρ'
      | .bk ρ' => E (.nx ρ')
      | u => E u) (fin : ∀ u, (E u ∨ ∃ ρ', u = .nx ρ' ∧ I ds.length ρ') → f u = r) : (forL b ds ρ >>= f) = r := by
  obtain ⟨u, e, h⟩ := forL_ex I E h0 step
  rw [e, pure_bind]; exact fin u h
end TI
set_option Elab.async false
set_option linter.all false
set_option maxRecDepth 100000
set_option maxHeartbeats 1000000
/-! sorting pairs of a text and its place -/
namespace TI
open L2
theorem lineV : line = 16777216 := rfl
theorem shD_pair (s : List Nat) (i : Int) : shD (.tup [.str s, .int i]) = some (2, [false, true]) := rfl
theorem leD_pair (s t : List Nat) (a b : Nat) : leD (.tup [.str s, .int a]) (.tup [.str t, .int b]) = !(if t = s then decide (b < a) else ltN t s) := by
  show (!(ltKL [.s t, .i b] [.s s, .i a])) = _
  congr 1
  show (if Ky.s t = Ky.s s then (if Ky.i b = Ky.i a then ltKL [] [] else decide ((b : Int) < a)) else ltN t s) = _
  by_cases h : t = s
  · rw [if_pos (by rw [h]), if_pos h]
    by_cases k : b = a
    · rw [if_pos (by rw [k])]
      subst k; simp [ltKL]
    · rw [if_neg (fun e => k (by injection e; omega))]; simp
  · rw [if_neg (by simpa using h), if_neg h]
theorem sort_pairs (f : Nat → T) (n : Nat) : bltD .sorted [.lst ((List.range n).map fun k => D.tup [.str (f k), .int k])] = pure (.lst ((ordr f n).map fun k => D.tup [.str (f k), .int k])) := by
  rw [blt_srt (srtOk_map _ _ (2, [false, true]) fun x _ => shD_pair _ _), sortD_map (fun k => D.tup [.str (f k), .int k]) (lePf f)]
  · rfl
  · intro a _ b _
    rw [leD_pair]; rfl
theorem shD_str (s : List Nat) : shD (.str s) = some (1, []) := rfl
theorem leD_str (s t : List Nat) : leD (.str s) (.str t) = !ltN t s := by
  show (!(if Ky.s t = Ky.s s then ltKL [] [] else ltN t s)) = _
  by_cases h : t = s
  · rw [if_pos (by rw [h])]; subst h; simp [ltKL, sto_N.ir]
  · rw [if_neg (by simpa using h)]
theorem leD_int (a b : Int) : leD (.int a) (.int b) = decide (a ≤ b) := by
  show (!(if Ky.i b = Ky.i a then ltKL [] [] else decide (b < a))) = _
  by_cases h : b = a
  · rw [if_pos (by rw [h])]; subst h; simp [ltKL]
  · rw [if_neg (by simpa using h)]
    by_cases k : b < a <;> simp [k] <;> omega
/-- texts in strict order are their own sorted list -/
theorem sort_texts {l k : List T} (p : k.Perm l) (h : k.Pairwise fun a b => ltN a b = true) : sortD (l.map D.str) = k.map D.str := by
  refine (sortD_uq (srtOk_map D.str l (1, []) fun x _ => rfl) (p.map _) ?_).symm
  rw [List.pairwise_map]
  exact h.imp fun {a b} h => by rw [leD_str]; exact congrArg (!·) (leN_lt h)
theorem ltS_eq : ∀ a b : List Nat, ltS a b = ltN a b
  | [], [] => rfl
  | [], _ :: _ => rfl
  | _ :: _, [] => rfl
  | x :: a, y :: b => by show (if x = y then ltS a b else _) = if x = y then ltN a b else _; rw [ltS_eq a b]
end TI
set_option Elab.async false
set_option linter.all false
set_option maxRecDepth 100000
set_option maxHeartbeats 1000000
/-! what the defs of law k89 reckon -/
namespace K89
open L2 TI
theorem r_places_of (p t : List Nat) (hp : p.length ≤ 1000) (ht : t.length ≤ 1000) : s_places_of [.str p, .str t] = pure (.tup (((List.range (t.length + 1 - p.length)).filter fun k => (t.drop k).take p.length == p).map fun k : Nat => D.int k)) := by
  have hL := lineV
  unfold s_places_of f_places_of
  rw [run_eq rfl]
  simp (disch := first | assumption | omega)
  rw [rng_int (by omega) (by omega), show ((t.length : Int) - p.length + 1).toNat = t.length + 1 - p.length by omega]
  simp (disch := first | assumption | omega)
  rw [compL_fil (c := fun k => (t.drop k).take p.length == p) (r := fun k : Nat => D.int k)]
  · simp
  · intro k hk
    unfold cmpF
    simp (disch := first | assumption | omega) [cutL_part, ite_pure]
theorem r_place_count (p t : List Nat) (hp : p.length ≤ 1000) (ht : t.length ≤ 1000) : s_place_count [.str p, .str t] = pure (.int ((List.range (t.length + 1 - p.length)).filter fun k => (t.drop k).take p.length == p).length) := by
  unfold s_place_count f_place_count
  rw [run_eq rfl]
  simp (disch := first | assumption | omega) [r_places_of p t hp ht]
theorem r_starts (p t : List Nat) (hp : p.length ≤ 1000) (ht : t.length ≤ 1000) : s__law_starts [.str p, .str t] = pure (.lst (((List.range (t.length + 1 - p.length)).filter fun k => (t.drop k).take p.length == p).map fun k : Nat => D.int k)) := by
  have hL := lineV
  unfold s__law_starts f__law_starts
  rw [run_eq rfl]
  simp (disch := first | assumption | omega)
  rw [rng_int (by omega) (by omega), show ((t.length : Int) - p.length + 1).toNat = t.length + 1 - p.length by omega]
  simp (disch := first | assumption | omega)
  rw [compL_fil (c := fun k => (t.drop k).take p.length == p) (r := fun k : Nat => D.int k)]
  · simp
  · intro k hk
    unfold cmpF
    simp (disch := first | assumption | omega) [cutL_part, ite_pure]
def fSuf (t : List Nat) (k : Nat) : T := t.drop k
/-- the ends of a text in order: where they begin -/
def sa (t : List Nat) : List Nat := ordr (fSuf t) t.length
theorem sa_len {t : List Nat} : (sa t).length = t.length := ordr_len _ _
theorem sa_lt {t : List Nat} {k : Nat} (h : k ∈ sa t) : k < t.length := ordr_mem.mp h
def sufs (t : List Nat) : List T := (sa t).map (fSuf t)
theorem r_end_order (t : List Nat) (ht : t.length ≤ 1000) : s_end_order [.str t] = pure (.tup ((sa t).map fun k : Nat => D.int k)) := by
  have hL := lineV
  unfold s_end_order f_end_order
  rw [run_eq rfl]
  simp (disch := first | assumption | omega)
  rw [rng_nat (by omega)]
  simp (disch := first | assumption | omega)
  rw [compL_map (r := fun k : Nat => D.tup [.str (fSuf t k), .int k])]
  · simp
    rw [sort_pairs]
    have := sa_len (t := t)
    simp (disch := first | assumption | omega)
    rw [grd_dec (by show (ordr (fSuf t) t.length).length ≤ line; rw [ordr_len]; omega), compL_map (r := fun k : Nat => D.int k)]
    · simp [sa]
    · intro k hk
      unfold cmpF
      simp
  · intro k hk
    unfold cmpF
    simp (disch := first | assumption | omega) [cutL_from, fSuf]
theorem r_law_order (t : List Nat) (ht : t.length ≤ 1000) : s__law_order [.str t] = pure (.lst ((sa t).map fun k : Nat => D.int k)) := by
  have hL := lineV
  unfold s__law_order f__law_order
  rw [run_eq rfl]
  simp (disch := first | assumption | omega)
  rw [rng_nat (by omega)]
  simp (disch := first | assumption | omega)
  rw [compL_map (r := fun k : Nat => D.tup [.str (fSuf t k), .int k])]
  · simp
    rw [sort_pairs]
    simp (disch := first | assumption | omega)
    rw [grd_dec (by show (ordr (fSuf t) t.length).length ≤ line; rw [ordr_len]; omega), compL_map (r := fun k : Nat => D.int k)]
    · simp [sa]
    · intro k hk
      unfold cmpF
      simp [atI, ixN]
  · intro k hk
    unfold cmpF
    simp (disch := first | assumption | omega) [cutL_from, fSuf]
end K89
set_option Elab.async false
set_option linter.all false
set_option maxRecDepth 100000
set_option maxHeartbeats 1000000
/-! what the defs of law k89 reckon: loops -/
namespace TI
theorem lcp_at : ∀ {a b : T} {m : Nat} (h : m ≤ lcp a b) (ha : m < a.length) (hb : m < b.length), (a[m] = b[m] ↔ m < lcp a b)
  | [], _, _, _, ha, _ => by simp at ha
  | _ :: _, [], _, _, _, hb => by simp at hb
  | x :: a, y :: b, 0, _, _, _ => by
    unfold lcp
    by_cases h : x = y <;> simp [h]
  | x :: a, y :: b, m + 1, h, ha, hb => by
    unfold lcp at h ⊢
    by_cases e : x = y
    · rw [if_pos e] at h ⊢
      have := lcp_at (a := a) (b := b) (m := m) (by omega) (by simpa using ha) (by simpa using hb)
      simpa using this
    · rw [if_neg e] at h; omega
end TI
namespace K89
open L2 TI
theorem r_shared_begin (a b : List Nat) (ha : a.length ≤ 1000) (hb : b.length ≤ 1000) : s_shared_begin [.str a, .str b] = pure (.int (lcp a b)) := by
  have hL := lineV
  have l1 := lcp_le_left (a := a) (b := b)
  have l2 := lcp_le_right (a := a) (b := b)
  unfold s_shared_begin f_shared_begin
  rw [run_eq rfl]
  simp (disch := first | assumption | omega)
  refine whl_go (fun n ρ => ∃ m : Nat, ρ = [.val (.str a), .val (.str b), .val (.int m)] ∧ m ≤ lcp a b ∧ n = lcp a b - m) (fun ρ => ρ = [.val (.str a), .val (.str b), .val (.int (lcp a b))]) (lcp a b) ⟨0, by simp⟩ (by show _ < 1000000; omega) ?_ ?_
  · rintro n ρ ⟨m, rfl, hm, rfl⟩
    by_cases c : m < lcp a b
    · refine .inr ⟨[.val (.str a), .val (.str b), .val (.int (m + 1 : Nat))], lcp a b - (m + 1), ?_, .inl ?_, by omega, m + 1, rfl, by omega, rfl⟩
      · have h1 : a[m] = b[m] := (lcp_at hm (by omega) (by omega)).mpr c
        simp (disch := first | assumption | omega)
        rw [if_pos (by split <;> omega), sub_strN (k := m) (s := a) (by omega) (by omega), sub_strN (k := m) (s := b) (by omega) (by omega)]
        simp [h1]
      · simp
    · have e : m = lcp a b := by omega
      refine .inl ⟨?_, by rw [e]⟩
      simp (disch := first | assumption | omega)
      by_cases q : m < a.length ∧ m < b.length
      · have h1 : ¬ a[m] = b[m] := fun h => c ((lcp_at hm q.1 q.2).mp h)
        have h2 : (a[m] == b[m]) = false := by simpa using h1
        rw [if_pos (by split <;> omega), sub_strN (k := m) (s := a) (by omega) (by omega), sub_strN (k := m) (s := b) (by omega) (by omega)]
        simp [h2]
      · rw [if_neg (by split <;> omega)]; simp
  · rintro ρ' rfl
    simp
theorem r_law_shared (a b : List Nat) (ha : a.length ≤ 1000) (hb : b.length ≤ 1000) : s__law_shared [.str a, .str b] = pure (.int (lcp a b)) := by
  have hL := lineV
  have l1 := lcp_le_left (a := a) (b := b)
  have l2 := lcp_le_right (a := a) (b := b)
  unfold s__law_shared f__law_shared
  rw [run_eq rfl]
  simp (disch := first | assumption | omega)
  obtain ⟨n, hn⟩ : ∃ n : Nat, (if b.length < a.length then (b.length : Int) else a.length) = n ∧ n ≤ a.length ∧ n ≤ b.length ∧ (n = a.length ∨ n = b.length) := by
    split
    · exact ⟨b.length, rfl, by omega, by omega, .inr rfl⟩
    · exact ⟨a.length, rfl, by omega, by omega, .inl rfl⟩
  rw [hn.1, rng_nat (by omega)]
  simp
  refine for_ex (fun i ρ => i ≤ lcp a b ∧ ∃ x, ρ = [.val (.str a), .val (.str b), .val (.int i), x]) (fun u => ∃ x, u = .nx [.val (.str a), .val (.str b), .val (.int (lcp a b)), x]) ⟨Nat.zero_le _, _, rfl⟩ ?_ ?_
  · rintro i h ρ ⟨hi, x, rfl⟩
    simp at h
    simp
    rw [sub_strN (k := i) (s := a) (by omega) (by omega), sub_strN (k := i) (s := b) (by omega) (by omega)]
    have := lcp_at hi (by omega) (by omega)
    by_cases c : i < lcp a b
    · refine ⟨.nx [.val (.str a), .val (.str b), .val (.int (i + 1 : Nat)), .val (.int i)], ?_, by omega, _, rfl⟩
      simp [this.mpr c]
    · have e : i = lcp a b := by omega
      refine ⟨.bk [.val (.str a), .val (.str b), .val (.int i), .val (.int i)], ?_, _, by rw [e]⟩
      have : ¬ a[i] = b[i] := fun z => c (this.mp z)
      simp [this]
  · rintro u (⟨x, rfl⟩ | ⟨ρ', rfl, hi, x, rfl⟩)
    · simp
    · simp at hi
      have : n = lcp a b := by omega
      simp [this]
end K89
set_option Elab.async false
set_option linter.all false
set_option maxRecDepth 100000
set_option maxHeartbeats 1000000
/-! what the defs of law k89 reckon: the ends in order -/
namespace K89
open L2 TI
/-- the rank of each place -/
def rnk (t : List Nat) : Nat → List Nat
  | 0 => List.replicate t.length 0
  | k + 1 => (rnk t k).set ((sa t).getD k 0) k
theorem rnk_len {t : List Nat} : ∀ k, (rnk t k).length = t.length
  | 0 => by simp [rnk]
  | k + 1 => by unfold rnk; rw [List.length_set, rnk_len k]
theorem ixN_n {n j : Nat} (h : j < n) : ixN n (j : Int) = some j := by
  unfold ixN
  rw [if_pos (by omega), if_pos (by omega)]; simp
theorem r_order_ranks (t : List Nat) (ht : t.length ≤ 1000) : s_order_ranks [.str t] = pure (.tup ((rnk t t.length).map fun k : Nat => D.int k)) := by
  have hL := lineV
  unfold s_order_ranks f_order_ranks
  rw [run_eq rfl]
  simp (disch := first | assumption | omega) [r_end_order t ht, enum_map]
  rw [bin_mulL ⟨by omega, by omega, by simp; omega⟩]
  simp
  rw [grd_true (show D.pureL (List.replicate t.length (D.int 0)) = true by rw [show List.replicate t.length (D.int 0) = (List.replicate t.length (0 : Nat)).map fun k : Nat => D.int k by simp]; exact pureL_map _ _ fun _ _ => rfl)]
  simp [r_end_order t ht, enum_map]
  refine for_go (fun i ρ => ∃ x y, ρ = [.val (.str t), .own (.lst ((rnk t i).map fun k : Nat => D.int k)), x, y]) ⟨.no, .no, by simp [rnk]⟩ ?_ ?_
  · rintro i h ρ ⟨x, y, rfl⟩
    simp [sa_len] at h
    have h2 : i < (sa t).length := by rw [sa_len]; exact h
    have h3 := sa_lt (List.getElem_mem h2)
    refine ⟨[.val (.str t), .own (.lst ((rnk t (i + 1)).map fun k : Nat => D.int k)), .val (.int i), .val (.int (sa t)[i])], .inl ?_, _, _, rfl⟩
    simp [stiD]
    rw [ixN_n (by rw [rnk_len]; exact h3)]
    simp [rnk, List.getD, h2, List.map_set]
  · rintro ρ' ⟨x, y, rfl⟩
    simp [sa_len]
theorem sufs_get {t : List Nat} {i : Nat} (h : i < t.length) : (sufs t)[i]? = some (t.drop ((sa t).getD i 0)) := by
  have h2 : i < (sa t).length := by rw [sa_len]; exact h
  unfold sufs
  simp [List.getElem?_map, h2, List.getD, fSuf]
theorem adj_map : ∀ (l : List Nat) (f : Nat → T), (l.zip (l.drop 1)).map (fun p => lcp (f p.1) (f p.2)) = adj (l.map f)
  | [], _ => rfl
  | [_], _ => rfl
  | a :: b :: r, f => by
    have := adj_map (b :: r) f
    simp at this
    simp [adj, this]
theorem r_shared_lengths (t : List Nat) (ht : t.length ≤ 1000) : s_shared_lengths [.str t] = pure (.tup ((adj (sufs t)).map fun k : Nat => D.int k)) := by
  have hL := lineV
  unfold s_shared_lengths f_shared_lengths
  rw [run_eq rfl]
  simp (disch := first | assumption | omega) [r_end_order t ht]
  have h1 : cutL ((sa t).map fun k : Nat => D.int k) (some 1) none = ((sa t).drop 1).map fun k : Nat => D.int k := by
    rw [show (1 : Int) = ((1 : Nat) : Int) by rfl, cutL_from, List.map_drop]
  rw [h1, zipD_map, grd_dec (by simp [sa_len]; omega), compL_map (r := fun p : Nat × Nat => D.int (lcp (fSuf t p.1) (fSuf t p.2)))]
  · simp
    unfold sufs
    rw [← adj_map (sa t) (fSuf t), List.map_map]
    simp only [List.drop_one]; rfl
  · intro p hp
    unfold cmpF
    have hh : ∀ k, (t.drop k).length ≤ 1000 := fun k => by simp; omega
    simp (disch := first | assumption | omega) [cutL_from, r_shared_begin _ _ (hh p.1) (hh p.2), fSuf]
theorem r_ends_with_part (t p : List Nat) (ht : t.length ≤ 1000) (hp : p.length ≤ 1000) : s_ends_with_part [.str t, .str p] = pure (.tup [.int ((sa t).filter fun k => ltN ((t.drop k).take p.length) p).length, .int (((sa t).filter fun k => ltN ((t.drop k).take p.length) p).length + ((sa t).filter fun k => (t.drop k).take p.length == p).length)]) := by
  have hL := lineV
  unfold s_ends_with_part f_ends_with_part
  rw [run_eq rfl]
  simp (disch := first | assumption | omega) [r_end_order t ht, sa_len]
  rw [compL_fil (c := fun k => ltN ((t.drop k).take p.length) p) (r := fun k : Nat => D.int k)]
  · simp (disch := first | assumption | omega) [sa_len]
    rw [compL_fil (c := fun k => (t.drop k).take p.length == p) (r := fun k : Nat => D.int k)]
    · simp (disch := first | assumption | omega)
    · intro k hk
      unfold cmpF
      simp (disch := first | assumption | omega) [cutL_part, ite_pure]
  · intro k hk
    unfold cmpF
    simp (disch := first | assumption | omega) [cutL_part, ite_pure, ltS_eq]
theorem r_part_number_by_order (t : List Nat) (ht : t.length ≤ 1000) : s_part_number_by_order [.str t] = pure (.int ((t.length : Int) * (t.length + 1) / 2 - (((adj (sufs t)).map fun k : Nat => (k : Int))).sum)) := by
  have hL := lineV
  unfold s_part_number_by_order f_part_number_by_order
  rw [run_eq rfl]
  simp (disch := first | assumption | omega) [r_shared_lengths t ht]
  rw [bin_mulI (by unfold cmulB; simp; omega)]
  simp (disch := first | assumption | omega)
end K89
set_option Elab.async false
set_option linter.all false
set_option maxRecDepth 100000
set_option maxHeartbeats 1000000
/-! what the defs of law k89 reckon: repeats, turns -/
namespace K89
open L2 TI
theorem fold_take {α β : Type} (f : β → α → β) (s : β) (l : List α) {i : Nat} (h : i < l.length) : (l.take (i + 1)).foldl f s = f ((l.take i).foldl f s) l[i] := by
  rw [List.take_succ_eq_append_getElem h, List.foldl_append]; rfl
def rst (m : Nat) (told : List T) (p : T × Nat) : List T := if m ≤ p.2 then lay told (p.1.take m) else told
theorem rst_twos (m : Nat) : ∀ (L : List T) (told : List T), (L.zip (adj L)).foldl (rst m) told = (twos m L).foldl lay told
  | [], _ => rfl
  | [_], _ => rfl
  | a :: b :: r, told => by
    show ((b :: r).zip (adj (b :: r))).foldl (rst m) (rst m told (a, lcp a b)) = _
    rw [rst_twos m (b :: r)]
    rw [show twos m (a :: b :: r) = if m ≤ lcp a b then a.take m :: twos m (b :: r) else twos m (b :: r) by rfl]
    unfold rst
    by_cases h : m ≤ lcp a b
    · simp [h]
    · simp [h]
theorem atI_m1 {α : Type} {l : List α} (h : l ≠ []) : atI l (-1) = l.getLast? := by
  obtain ⟨i, x, rfl⟩ := (List.eq_nil_or_concat l).resolve_left h
  rw [List.concat_eq_append, atI_last]; simp
def rep2 (t : List Nat) (m : Nat) : List T := (twos m (sufs t)).foldl lay []
theorem r_repeats_at_least (t : List Nat) (m : Nat) (ht : t.length ≤ 1000) : s_repeats_at_least [.str t, .int m] = pure (.tup ((rep2 t m).map D.str)) := by
  have hL := lineV
  unfold s_repeats_at_least f_repeats_at_least
  rw [run_eq rfl]
  simp (disch := first | assumption | omega) [r_end_order t ht, r_shared_lengths t ht, zipD_map]
  have hl : ((sa t).zip (adj (sufs t))).length = t.length - 1 := by
    rw [List.length_zip, adj_len, sa_len]; unfold sufs; rw [List.length_map, sa_len]; omega
  have hz : (sufs t).zip (adj (sufs t)) = ((sa t).zip (adj (sufs t))).map fun p => (fSuf t p.1, p.2) := by
    conv => lhs; arg 1; unfold sufs
    rw [List.zip_map_left]; rfl
  have lens : ∀ i, ((((sufs t).zip (adj (sufs t))).take i).foldl (rst m) []).length ≤ i := by
    intro i
    have key : ∀ (l : List (T × Nat)) (told : List T), (l.foldl (rst m) told).length ≤ told.length + l.length := by
      intro l
      induction l with
      | nil => intro told; simp
      | cons p l ih =>
        intro told
        have h1 := ih (rst m told p)
        have h2 : (rst m told p).length ≤ told.length + 1 := by
          unfold rst lay
          split
          · split <;> simp
          · simp
        simp only [List.foldl_cons, List.length_cons]; omega
    have h1 := key (((sufs t).zip (adj (sufs t))).take i) []
    have h2 : (((sufs t).zip (adj (sufs t))).take i).length ≤ i := by rw [List.length_take]; omega
    simp at h1
    simp; omega
  refine for_go (fun i ρ => ∃ x y z, ρ = [.val (.str t), .val (.int m), .val (.tup ((sa t).map fun k : Nat => D.int k)), .own (.lst (((((sufs t).zip (adj (sufs t))).take i).foldl (rst m) []).map D.str)), x, y, z]) ⟨.no, .no, .no, by simp⟩ ?_ ?_
  · rintro i h ρ ⟨x, y, z, rfl⟩
    simp only [List.length_map] at h
    have hi : i < ((sufs t).zip (adj (sufs t))).length := by rw [hz, List.length_map]; exact h
    have lens := lens i
    rw [fold_take (rst m) [] _ hi]
    have hg : ((sufs t).zip (adj (sufs t)))[i] = (fSuf t ((sa t).zip (adj (sufs t)))[i].1, ((sa t).zip (adj (sufs t)))[i].2) := by simp only [hz, List.getElem_map]
    rw [hg]
    generalize ((((sufs t).zip (adj (sufs t))).take i).foldl (rst m) []) = told at lens
    simp only [List.getElem_map]
    generalize ((sa t).zip (adj (sufs t)))[i] = p
    obtain ⟨a, s⟩ := p
    simp (disch := first | assumption | omega) [cutL_part]
    have hh : t.length ≤ 1000 := ht
    by_cases c : m ≤ s
    · by_cases e : told = []
      · subst e
        simp [c, appD, lineV, rst, lay, fSuf]
        exact ⟨_, .inl rfl, _, _, _, rfl⟩
      · have e2 : ¬ (told.length = 0) := by simpa using e
        have e3 : told.map D.str ≠ [] := by simpa using e
        obtain ⟨ini, q, rfl⟩ := (List.eq_nil_or_concat told).resolve_left e
        rw [List.concat_eq_append] at *
        by_cases d : q = (t.drop a).take m
        · simp [c, atI_m1, d, rst, lay, fSuf]
          exact ⟨_, .inl rfl, _, _, _, rfl⟩
        · have d2 : ¬ (q == (t.drop a).take m) = true := by simpa using d
          simp [c, atI_m1, d, rst, lay, fSuf, appD]
          rw [grd_dec (by simp at lens; omega)]
          simp
          exact ⟨_, .inl rfl, _, _, _, rfl⟩
    · simp [c, rst]
      exact ⟨_, .inl rfl, _, _, _, rfl⟩
  · rintro ρ' ⟨x, y, z, rfl⟩
    simp
    unfold rep2
    rw [← rst_twos, List.take_of_length_le]
    rw [hz]; simp
end K89
set_option Elab.async false
set_option linter.all false
set_option maxRecDepth 100000
set_option maxHeartbeats 1000000
/-! what the defs of law k89 reckon: turns -/
namespace K89
open L2 TI
def ro (t : List Nat) : List Nat := ordr (rot t) t.length
theorem ro_len {t : List Nat} : (ro t).length = t.length := ordr_len _ _
/-- the last column, and where the text itself stands -/
def lastC (t : List Nat) : List Nat := (ro t).map (rotL t)
theorem idx_own : ∀ (l : List Nat) (k : Nat), l.Nodup → ((l.zipIdx k).filter fun p => p.1 == 0).map (fun p => p.2) = if 0 ∈ l then [k + l.idxOf 0] else []
  | [], _, _ => by simp
  | x :: l, k, h => by
    obtain ⟨h1, h2⟩ := List.nodup_cons.mp h
    have ih := idx_own l (k + 1) h2
    rw [List.zipIdx_cons, List.filter_cons]
    by_cases c : x = 0
    · subst c
      rw [if_neg h1] at ih
      simp [ih]
    · have c2 : ¬ 0 = x := fun z => c z.symm
      have c3 : (x == 0) = false := by simpa using c
      simp [c, ih, c2, List.idxOf_cons, c3]
      split <;> simp; omega
theorem flat_one (f : Nat → Nat) (l : List Nat) : (l.map fun k => [f k]).flatten = l.map f := by induction l <;> simp_all
theorem emp_str : (PySem.Str.ofString "").cps.toList = [] := by rfl
theorem rot_cut (t : List Nat) (k : Nat) : cutL t (some (k : Int)) none ++ cutL t none (some (k : Int)) = rot t k := by
  rw [cutL_from, cutL_to]; rfl
theorem r_turned_columns (t : List Nat) (ht : t.length ≤ 1000) : s_turned_columns [.str t] = pure (.tup [.str (lastC t), .int ((ro t).idxOf 0 : Nat)]) := by
  have hL := lineV
  unfold s_turned_columns f_turned_columns
  rw [run_eq rfl]
  simp (disch := first | assumption | omega)
  rw [rng_nat (by omega)]
  simp (disch := first | assumption | omega)
  rw [compL_map (r := fun k : Nat => D.tup [.str (rot t k), .int k])]
  · simp
    rw [sort_pairs]
    have hro := ro_len (t := t)
    unfold ro at hro
    simp (disch := first | assumption | omega) [hro, enum_map]
    rw [compL_map (r := fun k : Nat => D.str [rotL t k])]
    · simp
      rw [emp_str, met_join (by rw [flat_one, List.length_map, hro]; omega), flat_one]
      simp (disch := first | assumption | omega) [hro, enum_map]
      rw [compL_fil (c := fun p : Nat × Nat => p.1 == 0) (r := fun p => D.int (p.2 : Nat))]
      · have e := idx_own (ordr (rot t) t.length) 0 (ordr_nodup _ _)
        have e2 : (((ordr (rot t) t.length).zipIdx).filter fun p => p.1 == 0).map (fun p => D.int ((p.2 : Nat) : Int)) = (if 0 ∈ ordr (rot t) t.length then [0 + (ordr (rot t) t.length).idxOf 0] else []).map fun k : Nat => D.int k := by
          rw [← e, List.map_map]; rfl
        rw [e2]
        have e3 : 0 ∈ ordr (rot t) t.length ↔ 0 < t.length := ordr_mem
        by_cases z : 0 < t.length
        · rw [if_pos (e3.mpr z)]
          simp [atI, ixN, lastC, ro]
        · have : t = [] := by
            cases t with
            | nil => rfl
            | cons _ _ => simp at z
          subst this
          have e4 : ordr (rot []) ([] : List Nat).length = [] := by simp [ordr]
          rw [e4]
          simp [lastC, ro, show ordr (rot []) 0 = [] from by simp [ordr]]
      · rintro ⟨a, i⟩ hk
        unfold cmpF
        simp (disch := first | assumption | omega) [ite_pure]
    · intro k hk
      have hk : k < t.length := ordr_mem.mp hk
      unfold cmpF
      have hne : rot t k ≠ [] := fun z => by
        have := rot_len (t := t) (k := k)
        rw [z] at this; simp at this; omega
      have hg : atI (rot t k) (-1) = some (rotL t k) := by
        have : ∀ {l : List Nat}, l ≠ [] → atI l (-1) = some (l.getD (l.length - 1) 0) := fun {l} h => by
          obtain ⟨i, x, rfl⟩ := (List.eq_nil_or_concat l).resolve_left h
          rw [List.concat_eq_append, atI_last]; simp
        rw [this hne, rot_len]; rfl
      have hs : subD (.str (rot t k)) (.int (-1)) = pure (.str [rotL t k]) := by
        show grd (decide ((rot t k).length ≤ line)) (match atI (rot t k) (-1) with
          | some c => pure (D.str [c])
          | none => M.stk) = _
        rw [hg, grd_dec (by rw [rot_len]; omega)]
      simp [hs]
  · intro k hk
    unfold cmpF
    simp (disch := first | assumption | omega)
    rw [bin_addS (by rw [← List.length_append, rot_cut, rot_len]; omega), rot_cut]
    simp
theorem ofnat0 : (0 : Int) = ((0 : Nat) : Int) := rfl
theorem r_text_of_columns (t : List Nat) (ht : t.length ≤ 1000) (A : Apart t) : s_text_of_columns [.str (lastC t), .int ((ro t).idxOf 0 : Nat)] = pure (.str t) := by
  have hL := lineV
  have hlc : (lastC t).length = t.length := by unfold lastC; rw [List.length_map, ro_len]
  unfold s_text_of_columns f_text_of_columns
  rw [run_eq rfl]
  simp (disch := first | assumption | omega) [enum_map, hlc]
  rw [compL_map (r := fun p : Nat × Nat => D.tup [.str [p.1], .int (p.2 : Nat)])]
  · have ez : (lastC t).zipIdx.map (fun p : Nat × Nat => D.tup [.str [p.1], .int (p.2 : Nat)]) = (List.range t.length).map fun k => D.tup [.str [rotL t ((ro t).getD k 0)], .int (k : Nat)] := by
      apply List.ext_getElem?
      intro i
      rw [List.getElem?_map, List.getElem?_map, List.getElem?_zipIdx]
      by_cases h : i < t.length
      · have h2 : i < (ro t).length := by rw [ro_len]; exact h
        simp [lastC, h, h2, List.getD]
      · have h2 : ¬ i < (ro t).length := by rw [ro_len]; exact h
        simp [lastC, h, h2]
    simp
    rw [ez, sort_pairs (fun k => [rotL t ((ro t).getD k 0)]), show ordr (fun k => [rotL t ((ro t).getD k 0)]) t.length = _ from back_ord A]
    simp (disch := first | assumption | omega)
    rw [compL_map (r := fun k : Nat => D.int (nxt t k))]
    · simp
      refine for_go (fun i ρ => ∃ x y, ρ = [.val (.str (lastC t)), .val (.int ((ro t).idxOf 0 : Nat)), .val (.lst ((List.range t.length).map fun k => D.int (nxt t k))), x, .val (.int (goes t i : Nat)), y, .own (.lst ((t.take i).map fun c => D.str [c]))]) ⟨.no, .no, by simp [goes, ro]⟩ ?_ ?_
      · rintro i h ρ ⟨x, y, rfl⟩
        simp [hlc] at h
        obtain ⟨g1, g2⟩ := goes_at (t := t) (k := i) (by omega)
        have g3 : goes t (i + 1) < t.length := nxt_lt g1
        refine ⟨[.val (.str (lastC t)), .val (.int ((ro t).idxOf 0 : Nat)), .val (.lst ((List.range t.length).map fun k => D.int (nxt t k))), .val (.str [(lastC t)[i]]), .val (.int (goes t (i + 1) : Nat)), y, .own (.lst ((t.take (i + 1)).map fun c => D.str [c]))], .inl ?_, _, _, rfl⟩
        have s1 : atI ((List.range t.length).map fun k => D.int (nxt t k)) (goes t i) = some (.int (goes t (i + 1) : Nat)) := by
          rw [atI_n (by simpa using g1)]; simp [goes]
        have s2 : subD (.str (lastC t)) (.int (goes t (i + 1))) = pure (.str [t[i]]) := by
          rw [sub_strN (by rw [hlc]; exact g3) (by omega)]
          have := goes_last h
          unfold lastC
          rw [List.getElem_map, ← this]
          have h2 : goes t (i + 1) < (ro t).length := by rw [ro_len]; exact g3
          rw [show (ordr (rot t) t.length).getD (goes t (i + 1)) 0 = (ro t)[goes t (i + 1)] from getD_get h2]
        simp [s1, s2, appD]
        rw [grd_dec (by omega)]
        simp
        rw [List.take_succ_eq_append_getElem (show i < (t.map fun c => D.str [c]).length by simpa using h)]
        simp
      · rintro ρ' ⟨x, y, rfl⟩
        simp [hlc, emp_str]
        have e5 : t.take t.length = t := List.take_length
        rw [met_join (f := fun c => [c]) (by rw [flat_one (fun c => c)]; simp; omega), flat_one (fun c => c)]
        simp
    · intro k hk
      unfold cmpF
      simp
  · rintro ⟨a, i⟩ hk
    unfold cmpF
    simp (disch := first | assumption | omega)
end K89
set_option Elab.async false
set_option linter.all false
set_option maxRecDepth 100000
set_option maxHeartbeats 1000000
/-! what the defs of law k89 reckon: the law's turns -/
namespace K89
open L2 TI
theorem getO {t : List Nat} {i : Nat} (h : i < t.length) : ∃ h2 : i < (ordr (rot t) t.length).length, (ordr (rot t) t.length)[i] < t.length := ⟨by rw [ordr_len]; exact h, ordr_mem.mp (List.getElem_mem _)⟩
theorem r_turns (t : List Nat) (ht : t.length ≤ 1000) : ∃ al : Bool, s__law_turns [.str t] = pure (.lst [.str (lastC t), .int ((ro t).idxOf 0 : Nat), .bl al]) ∧ (al = false → Apart t) := by
  have hL := lineV
  have hro := ro_len (t := t)
  unfold ro at hro
  obtain ⟨L, hLd⟩ : ∃ L, L = (ordr (rot t) t.length).map (rot t) := ⟨_, rfl⟩
  -- the flag
  let al : Nat → Bool := fun i => (List.range i).any fun j => decide (0 < j ∧ j < t.length ∧ L[j]? = L[j - 1]?)
  have al_s : ∀ i, al (i + 1) = (al i || decide (0 < i ∧ i < t.length ∧ L[i]? = L[i - 1]?)) := fun i => by
    show (List.range (i + 1)).any _ = _
    rw [List.range_succ, List.any_append]; simp [al]
  refine ⟨al t.length, ?_, fun h => apart_of fun i hi e => ?_⟩
  · unfold s__law_turns f__law_turns
    rw [run_eq rfl]
    simp (disch := first | assumption | omega)
    rw [rng_nat (by omega)]
    simp (disch := first | assumption | omega)
    rw [compL_map (r := fun k : Nat => D.tup [.str (rot t k), .int k])]
    · simp
      rw [sort_pairs]
      simp (disch := first | assumption | omega) [hro]
      rw [rng_nat (by omega)]
      simp (disch := first | assumption | omega)
      refine for_go (fun i ρ => ∃ x, ρ = [.val (.str t), .val (.lst ((ordr (rot t) t.length).map fun k => D.tup [.str (rot t k), .int k])), x, .val (.int ((if (ro t).idxOf 0 < i then (ro t).idxOf 0 else 0 : Nat) : Int)), .val (.bl (al i)), .no]) ⟨.no, by simp [al]⟩ ?_ ?_
      · rintro i h ρ ⟨x, rfl⟩
        simp at h
        obtain ⟨h2, h3⟩ := getO h
        have s1 : atI ((ordr (rot t) t.length).map fun k => D.tup [.str (rot t k), .int k]) (i : Int) = some (D.tup [.str (rot t (ordr (rot t) t.length)[i]), .int (ordr (rot t) t.length)[i]]) := by
          rw [atI_n (by simpa using h2)]; simp
        have s2 : ∀ a b : D, atI [a, b] (1 : Int) = some b := fun a b => rfl
        have s3 : ∀ a b : D, atI [a, b] (0 : Int) = some a := fun a b => rfl
        refine ⟨[.val (.str t), .val (.lst ((ordr (rot t) t.length).map fun k => D.tup [.str (rot t k), .int k])), .val (.int i), .val (.int ((if (ro t).idxOf 0 < i + 1 then (ro t).idxOf 0 else 0 : Nat) : Int)), .val (.bl (al (i + 1))), .no], .inl ?_, _, rfl⟩
        have nd := ordr_nodup (rot t) t.length
        have hrow : (if (ro t).idxOf 0 < i + 1 then (ro t).idxOf 0 else 0) = if (ordr (rot t) t.length)[i] = 0 then i else if (ro t).idxOf 0 < i then (ro t).idxOf 0 else 0 := by
          by_cases c : (ordr (rot t) t.length)[i] = 0
          · have e : (ro t).idxOf 0 = i := by
              rw [← c]; exact List.Nodup.idxOf_getElem nd i h2
            rw [if_pos c, if_pos (by omega), e]
          · have e : (ro t).idxOf 0 ≠ i := fun e => by
              have h4 : (ro t).idxOf 0 < (ro t).length := by rw [e]; exact h2
              have := List.getElem_idxOf h4
              simp only [e] at this
              exact c this
            rw [if_neg c]
            by_cases k : (ro t).idxOf 0 < i
            · rw [if_pos k, if_pos (by omega)]
            · rw [if_neg k, if_neg (by omega)]
        rw [hrow, al_s]
        have s4 : ∀ j, i = j + 1 → ∃ h4 : j < (ordr (rot t) t.length).length, atI ((ordr (rot t) t.length).map fun k => D.tup [.str (rot t k), .int k]) ((i : Int) - 1) = some (D.tup [.str (rot t (ordr (rot t) t.length)[j]), .int (ordr (rot t) t.length)[j]]) := fun j e => by
          have h4 : j < (ordr (rot t) t.length).length := by omega
          refine ⟨h4, ?_⟩
          rw [show (i : Int) - 1 = ((j : Nat) : Int) by omega, atI_n (by simpa using h4)]; simp
        have s5 : ∀ j (h : j < (ordr (rot t) t.length).length), L[j]? = some (rot t (ordr (rot t) t.length)[j]) := fun j h => by rw [hLd]; simp [h]
        by_cases z : 0 < i
        · obtain ⟨j, hj⟩ : ∃ j, i = j + 1 := ⟨i - 1, by omega⟩
          obtain ⟨h4, s4⟩ := s4 j hj
          have e1 := s5 i h2
          have e2 := s5 j h4
          have e3 : i - 1 = j := by omega
          by_cases c : (ordr (rot t) t.length)[i] = 0
          · simp [s1, s2, s3, c]
            simp [s1, s2, s3, s4, c, e1, e2, e3, h, z]
            by_cases q : rot t 0 = rot t (ordr (rot t) t.length)[j]
            · simp [q]
            · simp [q]
          · have c2 : ¬ ((ordr (rot t) t.length)[i] : Int) = 0 := by omega
            have c3 : (((ordr (rot t) t.length)[i] : Int) == 0) = false := by simpa using c2
            simp [s1, s2, s3, c, c3]
            simp [s1, s2, s3, s4, c, e1, e2, e3, h, z]
            by_cases q : rot t (ordr (rot t) t.length)[i] = rot t (ordr (rot t) t.length)[j]
            · simp [q]
            · simp [q]
        · by_cases c : (ordr (rot t) t.length)[i] = 0
          · simp [s1, s2, s3, c, z]
          · have c2 : ¬ ((ordr (rot t) t.length)[i] : Int) = 0 := by omega
            have c3 : (((ordr (rot t) t.length)[i] : Int) == 0) = false := by simpa using c2
            simp [s1, s2, s3, c, c3, z]
      · rintro ρ' ⟨x, rfl⟩
        simp (disch := first | assumption | omega) [hro]
        rw [compL_map (r := fun k : Nat => D.str [rotL t k])]
        · have hx : (if (ro t).idxOf 0 < t.length then (ro t).idxOf 0 else 0) = (ro t).idxOf 0 := by
            by_cases z : 0 < t.length
            · have : 0 ∈ ro t := ordr_mem.mpr z
              have := List.idxOf_lt_length_iff.mpr this
              rw [ro_len] at this
              rw [if_pos this]
            · have : t.length = 0 := by omega
              have e : ro t = [] := by unfold ro; simp [ordr, this]
              simp [e]
          rw [hx]
          simp [emp_str]
          rw [met_join (by rw [flat_one, List.length_map, hro]; omega), flat_one]
          simp [lastC, ro]
        · intro k hk
          have hk : k < t.length := ordr_mem.mp hk
          have s3 : ∀ a b : D, atI [a, b] (0 : Int) = some a := fun a b => rfl
          have s6 : subD (.str (rot t k)) (.int ((t.length : Int) - 1)) = pure (.str [rotL t k]) := by
            rw [show (t.length : Int) - 1 = ((t.length - 1 : Nat) : Int) by omega, sub_strN (by rw [rot_len]; omega) (by rw [rot_len]; omega)]
            unfold rotL
            rw [getD_get (by rw [rot_len]; omega)]
          unfold cmpF
          simp (disch := first | assumption | omega) [s3, s6]
    · intro k hk
      unfold cmpF
      simp (disch := first | assumption | omega)
      rw [bin_addS (by rw [← List.length_append, rot_cut, rot_len]; omega), rot_cut]
      simp (disch := first | assumption | omega)
  · have hlen : L.length = t.length := by rw [hLd, List.length_map, ordr_len]
    have : al t.length = true := by
      show (List.range t.length).any _ = true
      rw [List.any_eq_true]
      exact ⟨i + 1, List.mem_range.mpr hi, by simp; exact ⟨hi, by rw [hLd]; simpa using e⟩⟩
    rw [this] at h; cases h
end K89
set_option Elab.async false
set_option linter.all false
set_option maxRecDepth 100000
set_option maxHeartbeats 1000000
/-! what the defs of law k89 reckon: parts of one length -/
namespace K89
open L2 TI
/-- the part of m signs at a place -/
def prt (t : List Nat) (m k : Nat) : T := (t.drop k).take m
/-- how many places parts of m signs have -/
def nof (t : List Nat) (m : Nat) : Nat := t.length + 1 - m
def addT (ks : List T) (k : T) : List T := if k ∈ ks then ks else ks ++ [k]
def keysT (t : List Nat) (m i : Nat) : List T := ((List.range i).map (prt t m)).foldl addT []
theorem keysT_s {t : List Nat} {m i : Nat} : keysT t m (i + 1) = addT (keysT t m i) (prt t m i) := by
  unfold keysT
  rw [List.range_succ, List.map_append, List.foldl_append]; rfl
theorem keysT_mem {t : List Nat} {m i : Nat} {p : T} : p ∈ keysT t m i ↔ ∃ k, k < i ∧ prt t m k = p := by
  induction i with
  | zero => simp [keysT]
  | succ i ih =>
    rw [keysT_s]
    unfold addT
    constructor
    · intro h
      split at h
      · obtain ⟨k, h1, h2⟩ := ih.mp h
        exact ⟨k, by omega, h2⟩
      · rcases List.mem_append.mp h with h | h
        · obtain ⟨k, h1, h2⟩ := ih.mp h
          exact ⟨k, by omega, h2⟩
        · exact ⟨i, by omega, by simpa using Eq.symm (by simpa using h)⟩
    · rintro ⟨k, h1, h2⟩
      by_cases c : k = i
      · subst c
        split
        · rename_i h; rw [← h2]; exact h
        · simp [h2]
      · have := ih.mpr ⟨k, by omega, h2⟩
        split
        · exact this
        · exact List.mem_append_left _ this
theorem keysT_nd {t : List Nat} {m : Nat} : ∀ i, (keysT t m i).Nodup
  | 0 => by simp [keysT]
  | i + 1 => by
    rw [keysT_s]
    unfold addT
    split
    · exact keysT_nd i
    · rename_i h
      rw [List.nodup_append]
      refine ⟨keysT_nd i, by simp, fun a ha b hb e => ?_⟩
      obtain rfl : b = prt t m i := by simpa using hb
      exact h (e ▸ ha)
theorem addK_map : ∀ (l : List T) (ks : List T), (l.map Ky.s).foldl addK (ks.map Ky.s) = (l.foldl addT ks).map Ky.s
  | [], ks => rfl
  | p :: l, ks => by
    rw [List.map_cons, List.foldl_cons, List.foldl_cons, ← addK_map l]
    congr 1
    unfold addK addT
    by_cases h : p ∈ ks
    · rw [if_pos h, if_pos (List.mem_map.mpr ⟨p, h, rfl⟩)]
    · rw [if_neg h, if_neg (fun z => by
        obtain ⟨q, hq, e⟩ := List.mem_map.mp z
        injection e with e
        exact h (e ▸ hq))]
      simp
theorem map_d (l : List T) : (l.map Ky.s).map Ky.d = l.map D.str := by rw [List.map_map]; rfl
theorem srt_strs (l : List T) : srtOk (l.map D.str) = true := srtOk_map D.str l (1, []) fun x _ => rfl
theorem mem_sufs {t : List Nat} {s : T} : s ∈ sufs t ↔ ∃ k, k < t.length ∧ t.drop k = s := by
  unfold sufs
  rw [List.mem_map]
  constructor
  · rintro ⟨k, hk, e⟩
    exact ⟨k, sa_lt hk, e⟩
  · rintro ⟨k, hk, e⟩
    exact ⟨k, ordr_mem.mpr hk, e⟩
theorem sufs_le {t : List Nat} : (sufs t).Pairwise leN := ordr_le _ _
theorem keys_reps {t : List Nat} {m : Nat} (hm : 0 < m) : (reps m (sufs t)).Perm (keysT t m (nof t m)) := by
  refine (List.perm_ext_iff_of_nodup (pw_nodup (reps_pw sufs_le)) (keysT_nd _)).mpr fun p => ?_
  rw [mem_reps, keysT_mem]
  unfold nof prt
  constructor
  · rintro ⟨s, hs, l, e⟩
    obtain ⟨k, hk, rfl⟩ := mem_sufs.mp hs
    rw [List.length_drop] at l
    exact ⟨k, by omega, e⟩
  · rintro ⟨k, hk, e⟩
    exact ⟨_, mem_sufs.mpr ⟨k, by omega, rfl⟩, by rw [List.length_drop]; omega, e⟩
theorem sort_keys {t : List Nat} {m : Nat} (hm : 0 < m) : sortD ((keysT t m (nof t m)).map D.str) = (reps m (sufs t)).map D.str := sort_texts (keys_reps hm) (reps_pw sufs_le)
theorem r_unlike_parts (t : List Nat) (m : Nat) (ht : t.length ≤ 1000) (hm : 0 < m) (hm2 : m ≤ 2000) : s_unlike_parts [.str t, .int m] = pure (.tup ((reps m (sufs t)).map D.str)) := by
  have hL := lineV
  unfold s_unlike_parts f_unlike_parts
  rw [run_eq rfl]
  simp (disch := first | assumption | omega)
  rw [rng_int (by omega) (by omega), show ((t.length : Int) - m + 1).toNat = nof t m by unfold nof; omega]
  have hn : nof t m ≤ 1000 := by unfold nof; omega
  simp (disch := first | assumption | omega)
  rw [compL_map (r := fun k : Nat => Ky.s (prt t m k))]
  · have e : ((List.range (nof t m)).map fun k => Ky.s (prt t m k)).foldl addK [] = (keysT t m (nof t m)).map Ky.s := by
      rw [show (List.range (nof t m)).map (fun k => Ky.s (prt t m k)) = ((List.range (nof t m)).map (prt t m)).map Ky.s by rw [List.map_map]; rfl]
      exact addK_map _ []
    simp only [pure_bind]
    rw [e, map_d, grd_true (srt_strs _), sort_keys hm]
    simp
  · intro k hk
    unfold sscF
    simp (disch := first | assumption | omega) [cutL_part, kyOf, prt]
theorem r_part_number (t : List Nat) (ht : t.length ≤ 1000) : s_part_number [.str t] = pure (.int ((List.range t.length).map fun k => (((reps (k + 1) (sufs t)).length : Nat) : Int)).sum) := by
  have hL := lineV
  unfold s_part_number f_part_number
  rw [run_eq rfl]
  simp (disch := first | assumption | omega)
  have e : rngOf [.int 1, .int ((t.length : Int) + 1)] = pure ((List.range t.length).map fun k : Nat => D.int ((k + 1 : Nat) : Int)) := by
    show grd (smallB 1 && smallB ((t.length : Int) + 1)) (pure (rngD 1 1 ((t.length : Int) + 1 - 1).toNat)) = _
    rw [grd_true (by unfold smallB; simp; omega), rngD_eq, show ((t.length : Int) + 1 - 1).toNat = t.length by omega]
    congr 1
    refine List.map_congr_left fun k _ => ?_
    congr 1; omega
  rw [e]
  simp (disch := first | assumption | omega)
  rw [compL_map (r := fun k : Nat => D.int ((reps (k + 1) (sufs t)).length : Nat))]
  · simp
  · intro k hk
    have hk := List.mem_range.mp hk
    have := r_unlike_parts t (k + 1) ht (by omega) (by omega)
    unfold cmpF
    simp at this
    simp (disch := first | assumption | omega) [this]
/-- where a part stands among the first places -/
def pos (t : List Nat) (m i : Nat) (p : T) : List Nat := (List.range i).filter fun k => prt t m k == p
theorem pos_s {t : List Nat} {m i : Nat} {p : T} : pos t m (i + 1) p = pos t m i p ++ if prt t m i = p then [i] else [] := by
  unfold pos
  rw [List.range_succ, List.filter_append]
  congr 1
  by_cases h : prt t m i = p <;> simp [h]
theorem pos_none {t : List Nat} {m i : Nat} {p : T} (h : p ∉ keysT t m i) : pos t m i p = [] := by
  unfold pos
  rw [List.filter_eq_nil_iff]
  intro k hk e
  exact h (keysT_mem.mpr ⟨k, List.mem_range.mp hk, by simpa using e⟩)
theorem pos_len {t : List Nat} {m i : Nat} {p : T} : (pos t m i p).length ≤ i := by
  have := List.length_filter_le (fun k => prt t m k == p) (List.range i)
  simpa [pos] using this
theorem keysT_len {t : List Nat} {m : Nat} : ∀ i, (keysT t m i).length ≤ i
  | 0 => by simp [keysT]
  | i + 1 => by
    have := keysT_len (t := t) (m := m) i
    rw [keysT_s]; unfold addT
    split
    · omega
    · simp; omega
theorem look_map (g : T → D) (q : T) : ∀ ks : List T, lookA (Ky.s q) (ks.map Ky.s) (ks.map g) = if q ∈ ks then some (g q) else none
  | [] => by simp [lookA]
  | k :: ks => by
    have ih := look_map g q ks
    show (if Ky.s k = Ky.s q then some (g k) else lookA (Ky.s q) (ks.map Ky.s) (ks.map g)) = _
    by_cases h : k = q
    · subst h; simp
    · have h2 : ¬ q = k := fun e => h e.symm
      rw [if_neg (by simpa using h), ih]; simp [h2]
theorem memA_map (q : T) (ks : List T) : memA (Ky.s q) (ks.map Ky.s) = decide (q ∈ ks) := by
  unfold memA
  rw [List.any_map]
  by_cases h : q ∈ ks
  · rw [decide_eq_true h, List.any_eq_true]
    exact ⟨q, h, by simp⟩
  · rw [decide_eq_false h, List.any_eq_false]
    intro x hx e
    simp at e
    exact h (e ▸ hx)
theorem rep_map (g : T → D) (q : T) (v : D) : ∀ ks : List T, repA (Ky.s q) v (ks.map Ky.s) (ks.map g) = ks.map fun p => if p = q then v else g p
  | [] => rfl
  | k :: ks => by
    show (if Ky.s k = Ky.s q then v else g k) :: repA (Ky.s q) v (ks.map Ky.s) (ks.map g) = _
    rw [rep_map g q v ks]; simp
/-- the dict of parts and their places, w: how the places are kept -/
def gramD (w : List Nat → D) (t : List Nat) (m i : Nat) : D := .dK ((keysT t m i).map Ky.s) ((keysT t m i).map fun p => w (pos t m i p))
theorem gram_put (w : List Nat → D) (t : List Nat) (m i : Nat) : putA (Ky.s (prt t m i)) (w (pos t m i (prt t m i) ++ [i])) ((keysT t m i).map Ky.s) ((keysT t m i).map fun p => w (pos t m i p)) = ((keysT t m (i + 1)).map Ky.s, (keysT t m (i + 1)).map fun p => w (pos t m (i + 1) p)) := by
  unfold putA
  rw [memA_map, keysT_s]
  unfold addT
  by_cases h : prt t m i ∈ keysT t m i
  · rw [if_pos (by simpa using h), if_pos h, rep_map]
    congr 1
    refine List.map_congr_left fun p _ => ?_
    rw [pos_s]
    by_cases e : p = prt t m i
    · subst e; simp
    · have e2 : ¬ prt t m i = p := fun z => e z.symm
      simp [e, e2]
  · rw [if_neg (by simpa using h), if_neg h]
    rw [List.map_append, List.map_append]
    congr 1
    congr 1
    · refine List.map_congr_left fun p hp => ?_
      rw [pos_s]
      have e2 : ¬ prt t m i = p := fun z => h (z ▸ hp)
      simp [e2]
    · simp [pos_s]
theorem r_gram_places (t : List Nat) (m : Nat) (ht : t.length ≤ 1000) (hm : 0 < m) (hm2 : m ≤ 2000) : s_gram_places [.str t, .int m] = pure (.tup ((reps m (sufs t)).map fun p => D.tup [.str p, .tup ((pos t m (nof t m) p).map fun k : Nat => D.int k)])) := by
  have hL := lineV
  unfold s_gram_places f_gram_places
  rw [run_eq rfl]
  simp (disch := first | assumption | omega)
  rw [rng_int (by omega) (by omega), show ((t.length : Int) - m + 1).toNat = nof t m by unfold nof; omega]
  have hn : nof t m ≤ 1000 := by unfold nof; omega
  simp (disch := first | assumption | omega)
  let w : List Nat → D := fun l => .tup (l.map fun k : Nat => D.int k)
  refine for_go (fun i ρ => ∃ x y, ρ = [.val (.str t), .val (.int m), .own (gramD w t m i), x, y]) ⟨.no, .no, by simp [gramD, keysT]⟩ ?_ ?_
  · rintro i h ρ ⟨x, y, rfl⟩
    simp at h
    refine ⟨[.val (.str t), .val (.int m), .own (gramD w t m (i + 1)), .val (.int i), .val (.str (prt t m i))], .inl ?_, _, _, rfl⟩
    have hk := keysT_len (t := t) (m := m) i
    have hp := pos_len (t := t) (m := m) (i := i) (p := prt t m i)
    have pp : D.pureL ((pos t m i (prt t m i)).map fun k : Nat => D.int k) = true := pureL_map _ _ fun _ _ => rfl
    have e1 : metD .get (gramD w t m i) [.str (prt t m i), .tup []] = pure (w (pos t m i (prt t m i))) := by
      show pure ((lookA (Ky.s (prt t m i)) ((keysT t m i).map Ky.s) ((keysT t m i).map fun p => w (pos t m i p))).getD (.tup [])) = _
      rw [look_map]
      by_cases c : prt t m i ∈ keysT t m i
      · simp [c]
      · simp [c, pos_none c, w]
    have e2 : binD .Add (w (pos t m i (prt t m i))) (.tup [.int i]) = pure (w (pos t m i (prt t m i) ++ [i])) := by
      show binD .Add (.tup _) (.tup _) = _
      rw [bin_addT (by simp; omega)]; simp [w]
    have e3 : recOk .get (gramD w t m i) = true := rfl
    have e4 : (w (pos t m i (prt t m i) ++ [i])).pure = true := pureL_map _ _ fun _ _ => rfl
    have e5 : (t.drop i).take m = prt t m i := rfl
    simp (disch := first | assumption | omega) [cutL_part, e1, e2, e3, e4, e5]
    have e6 : stiD [.val (.str t), .val (.int m), .own (gramD w t m i), .val (.int i), .val (.str (prt t m i))] 2 (.str (prt t m i)) (w (pos t m i (prt t m i) ++ [i])) = pure (.nx [.val (.str t), .val (.int m), .own (gramD w t m (i + 1)), .val (.int i), .val (.str (prt t m i))]) := by
      show grd (decide (((keysT t m i).map Ky.s).length < line)) _ = _
      rw [grd_dec (by rw [List.length_map]; omega), gram_put]; rfl
    simp [e6]
  · rintro ρ' ⟨x, y, rfl⟩
    have e7 : bltD .sorted [gramD w t m (nof t m)] = pure (.lst ((reps m (sufs t)).map D.str)) := by
      unfold gramD
      rw [blt_srtK (by rw [map_d]; exact srt_strs _), map_d, sort_keys hm]
    have hr : (reps m (sufs t)).length ≤ 1000 := by
      have := (keys_reps (t := t) hm).length_eq
      have := keysT_len (t := t) (m := m) (nof t m)
      omega
    simp (disch := first | assumption | omega) [e7]
    rw [compL_map (r := fun p : T => D.tup [.str p, w (pos t m (nof t m) p)])]
    · simp [w]
    · intro p hp
      have hk : p ∈ keysT t m (nof t m) := (keys_reps hm).mem_iff.mp hp
      have e8 : subD (gramD w t m (nof t m)) (.str p) = pure (w (pos t m (nof t m) p)) := by
        show opt (lookA (Ky.s p) _ _) = _
        rw [look_map, if_pos hk]; rfl
      unfold cmpF
      simp (disch := first | assumption | omega) [e8]
end K89
set_option Elab.async false
set_option linter.all false
set_option maxRecDepth 100000
set_option maxHeartbeats 1000000
/-! what the defs of law k89 reckon: the law's own grams -/
namespace K89
open L2 TI
theorem idx_map (q : T) : ∀ (ks : List T), q ∈ ks → idxA (Ky.s q) (ks.map Ky.s) = some (ks.idxOf q)
  | [], h => by simp at h
  | k :: ks, h => by
    show (if Ky.s k = Ky.s q then some 0 else (idxA (Ky.s q) (ks.map Ky.s)).map (· + 1)) = _
    by_cases e : k = q
    · subst e; simp
    · have h2 : q ∈ ks := by
        rcases List.mem_cons.mp h with h | h
        · exact absurd h.symm e
        · exact h
      have e2 : (k == q) = false := by simpa using e
      rw [if_neg (by simpa using e), idx_map q ks h2, List.idxOf_cons]
      simp [e2]
theorem set_map (g : T → D) (q : T) (v : D) : ∀ (ks : List T), ks.Nodup → q ∈ ks → (ks.map g).set (ks.idxOf q) v = ks.map fun p => if p = q then v else g p
  | [], _, h => by simp at h
  | k :: ks, nd, h => by
    obtain ⟨n1, n2⟩ := List.nodup_cons.mp nd
    by_cases e : k = q
    · subst e
      simp
      intro a ha e
      exact absurd (e ▸ ha) n1
    · have h2 : q ∈ ks := by
        rcases List.mem_cons.mp h with h | h
        · exact absurd h.symm e
        · exact h
      have e2 : (k == q) = false := by simpa using e
      rw [List.idxOf_cons]
      simp [e2, e]
      simpa using set_map g q v ks n2 h2
theorem get_map (g : T → D) (q : T) : ∀ (ks : List T), q ∈ ks → (ks.map g)[ks.idxOf q]? = some (g q)
  | [], h => by simp at h
  | k :: ks, h => by
    by_cases e : k = q
    · subst e; simp
    · have h2 : q ∈ ks := by
        rcases List.mem_cons.mp h with h | h
        · exact absurd h.symm e
        · exact h
      have e2 : (k == q) = false := by simpa using e
      rw [List.idxOf_cons]
      simp [e2]
      simpa using get_map g q ks h2
def wL : List Nat → D := fun l => .lst (l.map fun k : Nat => D.int k)
theorem r_law_grams (t : List Nat) (m : Nat) (ht : t.length ≤ 1000) (hm : 0 < m) (hm2 : m ≤ 2000) : s__law_grams [.str t, .int m] = pure (gramD wL t m (nof t m)) := by
  have hL := lineV
  unfold s__law_grams f__law_grams
  rw [run_eq rfl]
  simp (disch := first | assumption | omega)
  rw [rng_int (by omega) (by omega), show ((t.length : Int) - m + 1).toNat = nof t m by unfold nof; omega]
  have hn : nof t m ≤ 1000 := by unfold nof; omega
  simp (disch := first | assumption | omega)
  refine for_go (fun i ρ => ∃ x y, ρ = [.val (.str t), .val (.int m), .ow2 (gramD wL t m i), x, y]) ⟨.no, .no, by simp [gramD, keysT]⟩ ?_ ?_
  · rintro i h ρ ⟨x, y, rfl⟩
    simp at h
    refine ⟨[.val (.str t), .val (.int m), .ow2 (gramD wL t m (i + 1)), .val (.int i), .val (.str (prt t m i))], .inl ?_, _, _, rfl⟩
    have hk := keysT_len (t := t) (m := m) i
    have hp := pos_len (t := t) (m := m) (i := i) (p := prt t m i)
    have e5 : (t.drop i).take m = prt t m i := rfl
    -- the dict with the key
    let mid : D := .dK ((keysT t m (i + 1)).map Ky.s) ((keysT t m (i + 1)).map fun p => wL (pos t m i p))
    have hin : prt t m i ∈ keysT t m (i + 1) := keysT_mem.mpr ⟨i, by omega, rfl⟩
    have e6 : inD (.str (prt t m i)) (gramD wL t m i) = pure (decide (prt t m i ∈ keysT t m i)) := by
      show pure (memA (Ky.s (prt t m i)) _) = _
      rw [memA_map]
    have e7 : prt t m i ∈ keysT t m i → gramD wL t m i = mid := fun h => by
      show D.dK _ _ = D.dK _ _
      rw [keysT_s]; unfold addT; rw [if_pos h]
    have e8 : prt t m i ∉ keysT t m i → putKid (gramD wL t m i) (.str (prt t m i)) (.lst []) = some mid := fun h => by
      show (if memA (Ky.s (prt t m i)) ((keysT t m i).map Ky.s) = true then none else some (D.dK ((keysT t m i).map Ky.s ++ [Ky.s (prt t m i)]) (((keysT t m i).map fun p => wL (pos t m i p)) ++ [.lst []]))) = _
      rw [memA_map, if_neg (by simpa using h)]
      congr 1
      show D.dK _ _ = D.dK _ _
      rw [keysT_s]; unfold addT; rw [if_neg h]
      simp [pos_none h, wL]
    have e9 : (gramD wL t m i).kids.length < line := by
      show ((keysT t m i).map fun p => wL (pos t m i p)).length < line
      rw [List.length_map]; omega
    have e10 : kidIx mid (.str (prt t m i)) = some ((keysT t m (i + 1)).idxOf (prt t m i)) := by
      show idxA (Ky.s (prt t m i)) ((keysT t m (i + 1)).map Ky.s) = _
      exact idx_map _ _ hin
    have e11 : mid.kids[(keysT t m (i + 1)).idxOf (prt t m i)]? = some (.lst ((pos t m i (prt t m i)).map fun k : Nat => D.int k)) := by
      show ((keysT t m (i + 1)).map fun p => wL (pos t m i p))[_]? = _
      rw [get_map _ _ _ hin]; rfl
    have e12 : mid.setKid ((keysT t m (i + 1)).idxOf (prt t m i)) (.lst (((pos t m i (prt t m i)).map fun k : Nat => D.int k) ++ [.int i])) = gramD wL t m (i + 1) := by
      show D.dK _ _ = D.dK _ _
      rw [set_map _ _ _ _ (keysT_nd _) hin]
      congr 1
      refine List.map_congr_left fun p _ => ?_
      rw [pos_s]
      by_cases e : p = prt t m i
      · subst e; simp [wL]
      · have e2 : ¬ prt t m i = p := fun z => e z.symm
        simp [e, e2]
    have fin : exS (.apk 2 (.var 4) (.var 3)) [.val (.str t), .val (.int m), .ow2 mid, .val (.int i), .val (.str (prt t m i))] = pure (.nx [.val (.str t), .val (.int m), .ow2 (gramD wL t m (i + 1)), .val (.int i), .val (.str (prt t m i))]) := by
      simp
      unfold kidL
      rw [e10]
      simp only [e11]
      simp [apkD]
      rw [grd_dec (by omega), e12]
    by_cases c : prt t m i ∈ keysT t m i
    · simp (disch := first | assumption | omega) [cutL_part, e5, e6, c]
      rw [e7 c]
      have fin := fin
      simp at fin
      simp [fin]
    · simp (disch := first | assumption | omega) [cutL_part, e5, e6, c]
      have e13 : (D.pureL (D.lst []).kids && decide ((gramD wL t m i).kids.length < line)) = true := by
        rw [decide_eq_true e9]; rfl
      simp only [e13, e8 c, grd_t, pure_bind]
      have fin := fin
      simp at fin
      simp [fin]
  · rintro ρ' ⟨x, y, rfl⟩
    simp
end K89
set_option Elab.async false
set_option linter.all false
set_option maxRecDepth 100000
set_option maxHeartbeats 1000000
/-! what the defs of law k89 reckon: the table of what two texts share -/
namespace K89
open L2 TI
def row (f : Nat → Nat) (m : Nat) : List D := (List.range (m + 1)).map fun b => D.int (f b : Nat)
def tab (F : Nat → Nat → Nat) (n m : Nat) : D := .lst ((List.range (n + 1)).map fun a => .lst (row (F a) m))
theorem tab_congr {F G : Nat → Nat → Nat} {n m : Nat} (h : ∀ a b, a ≤ n → b ≤ m → F a b = G a b) : tab F n m = tab G n m := by
  unfold tab row
  congr 1
  refine List.map_congr_left fun a ha => ?_
  congr 1
  refine List.map_congr_left fun b hb => ?_
  rw [h a b (by have := List.mem_range.mp ha; omega) (by have := List.mem_range.mp hb; omega)]
theorem map_set {α : Type} (f : Nat → α) (n a : Nat) (x : α) (h : a < n) : ((List.range n).map f).set a x = (List.range n).map fun k => if k = a then x else f k := by
  apply List.ext_getElem?
  intro i
  rw [List.getElem?_set]
  by_cases c : a = i
  · subst c; simp [h]
  · have c2 : ¬ i = a := fun e => c e.symm
    by_cases k : i < n
    · simp [c, c2, k]
    · simp [c, k]
theorem tab_set {F : Nat → Nat → Nat} {n m a b v : Nat} (ha : a ≤ n) (hb : b ≤ m) : (tab F n m).setKid a (.lst ((row (F a) m).set b (.int v))) = tab (fun a' b' => if a' = a ∧ b' = b then v else F a' b') n m := by
  show D.lst (List.set _ a _) = _
  unfold row
  rw [map_set _ _ _ _ (by omega), map_set _ _ _ _ (by omega)]
  unfold tab row
  congr 1
  refine List.map_congr_left fun a' _ => ?_
  by_cases c : a' = a
  · subst c
    rw [if_pos rfl]
    congr 1
    refine List.map_congr_left fun b' _ => ?_
    by_cases d : b' = b <;> simp [d]
  · rw [if_neg c]
    congr 1
    refine List.map_congr_left fun b' _ => ?_
    simp [c]
theorem tab_row {F : Nat → Nat → Nat} {n m a : Nat} (ha : a ≤ n) : subD (tab F n m) (.int a) = pure (.lst (row (F a) m)) := by
  unfold tab
  rw [sub_lstN (by simp; omega)]; simp
theorem row_at {f : Nat → Nat} {m b : Nat} (hb : b ≤ m) : subD (.lst (row f m)) (.int b) = pure (.int (f b : Nat)) := by
  unfold row
  rw [sub_lstN (by simp; omega)]; simp
theorem ixN_n' {n j : Nat} (h : j < n) : ixN n (j : Int) = some j := ixN_n h
theorem tab_kid {F : Nat → Nat → Nat} {n m a : Nat} (ha : a ≤ n) (k : Nat → List D → M Out) : kidL (tab F n m) (.int a) k = k a (row (F a) m) := by
  have h1 : kidIx (tab F n m) (.int a) = some a := by
    show ixN _ _ = _
    rw [ixN_n (by simp; omega)]
  have h2 : (tab F n m).kids[a]? = some (.lst (row (F a) m)) := by
    show ((List.range (n + 1)).map fun a => D.lst (row (F a) m))[a]? = _
    have : a < n + 1 := by omega
    simp [this]
  unfold kidL
  rw [h1]
  show (match (tab F n m).kids[a]? with
    | some (.lst ys) => k a ys
    | _ => M.stk) = _
  rw [h2]
theorem rng_down {n : Nat} (h : n ≤ 1000) : rngOf [.int ((n : Int) - 1), .int (-1), .int (-1)] = pure ((List.range n).map fun i : Nat => D.int ((n : Int) - 1 - i)) := by
  show grd (smallB ((n : Int) - 1) && smallB (-1) && ((-1 : Int) == -1)) (pure (rngD ((n : Int) - 1) (-1) ((n : Int) - 1 - -1).toNat)) = _
  rw [grd_true (by unfold smallB; simp; omega), rngD_eq, show ((n : Int) - 1 - -1).toNat = n by omega]
  congr 1
  refine List.map_congr_left fun k _ => ?_
  congr 1; omega
/-- the table when rows from i on, and of row i places from j on are done -/
def part (a b : T) (i j : Nat) (x y : Nat) : Nat := if i < x ∨ (x = i ∧ j ≤ y) then lcp (a.drop x) (b.drop y) else 0
theorem lcp_drop {a b : T} {x y : Nat} (hx : x < a.length) (hy : y < b.length) : lcp (a.drop x) (b.drop y) = if a[x] = b[y] then lcp (a.drop (x + 1)) (b.drop (y + 1)) + 1 else 0 := by
  rw [List.drop_eq_getElem_cons hx, List.drop_eq_getElem_cons hy]; rfl
theorem lcp_nil_r (a : T) : lcp a [] = 0 := by cases a <;> rfl
def inB : Sts := .cons (.ife (.cmp .Eq (.sub (.var 0) (.var 4)) (.sub (.var 1) (.var 5))) (.cons (.st2 2 (.var 4) (.var 5) (.bin .Add (.sub (.sub (.var 2) (.bin .Add (.var 4) (.con (.int 1)))) (.bin .Add (.var 5) (.con (.int 1)))) (.con (.int 1)))) .nil) .nil) .nil
theorem inner (a b : List Nat) (ha : a.length ≤ 1000) (hb : b.length ≤ 1000) (p : Nat) (hp : p < a.length) (w z : Sl) :
    ∃ z', forL (forB (.nm 5) inB) ((List.range b.length).map fun i : Nat => D.int ((b.length : Int) - 1 - i)) [.val (.str a), .val (.str b), .ow2 (tab (part a b (p + 1) 0) a.length b.length), w, .val (.int p), z] = pure (.nx [.val (.str a), .val (.str b), .ow2 (tab (part a b p 0) a.length b.length), w, .val (.int p), z']) := by
  have hL := lineV
  have h0 : ∃ z', [Sl.val (.str a), .val (.str b), .ow2 (tab (part a b (p + 1) 0) a.length b.length), w, .val (.int p), z] = [.val (.str a), .val (.str b), .ow2 (tab (part a b p (b.length - 0)) a.length b.length), w, .val (.int p), z'] := ⟨z, by
      have : tab (part a b (p + 1) 0) a.length b.length = tab (part a b p (b.length - 0)) a.length b.length := tab_congr fun x y hx hy => by
        unfold part
        by_cases c : p < x
        · rw [if_pos (by omega), if_pos (by omega)]
        · rw [if_neg (by omega)]
          split
          · have : y = b.length := by omega
            subst this
            rw [List.drop_length, lcp_nil_r]
          · rfl
      rw [this]⟩
  have step : ∀ j (h : j < ((List.range b.length).map fun i : Nat => D.int ((b.length : Int) - 1 - i)).length) ρ, (∃ z, ρ = [Sl.val (.str a), .val (.str b), .ow2 (tab (part a b p (b.length - j)) a.length b.length), w, .val (.int p), z]) →
      ∃ ρ', (forB (.nm 5) inB ((List.range b.length).map fun i : Nat => D.int ((b.length : Int) - 1 - i))[j] ρ = pure (.nx ρ') ∨ forB (.nm 5) inB ((List.range b.length).map fun i : Nat => D.int ((b.length : Int) - 1 - i))[j] ρ = pure (.ct ρ')) ∧ ∃ z, ρ' = [Sl.val (.str a), .val (.str b), .ow2 (tab (part a b p (b.length - (j + 1))) a.length b.length), w, .val (.int p), z] := by
    rintro j hj ρ ⟨z, rfl⟩
    simp at hj
    have hq : ((b.length : Int) - 1 - j) = ((b.length - (j + 1) : Nat) : Int) := by omega
    obtain ⟨q, hqd⟩ : ∃ q, q = b.length - (j + 1) := ⟨_, rfl⟩
    have hql : q < b.length := by omega
    have hq1 : b.length - j = q + 1 := by omega
    rw [← hqd] at hq
    rw [hq1, ← hqd]
    refine ⟨[.val (.str a), .val (.str b), .ow2 (tab (part a b p q) a.length b.length), w, .val (.int p), .val (.int q)], .inl ?_, _, rfl⟩
    simp [inB, hq]
    rw [sub_strN hp (by omega), sub_strN hql (by omega)]
    have s1 : subD (tab (part a b p (q + 1)) a.length b.length) (.int ((p : Int) + 1)) = pure (.lst (row (part a b p (q + 1) (p + 1)) b.length)) := by
      rw [show (p : Int) + 1 = ((p + 1 : Nat) : Int) by omega, tab_row (by omega)]
    have s2 : subD (.lst (row (part a b p (q + 1) (p + 1)) b.length)) (.int ((q : Int) + 1)) = pure (.int (lcp (a.drop (p + 1)) (b.drop (q + 1)) : Nat)) := by
      rw [show (q : Int) + 1 = ((q + 1 : Nat) : Int) by omega, row_at (by omega)]
      unfold part
      rw [if_pos (by omega)]
    by_cases c : a[p] = b[q]
    · have s3 : tab (fun a' b' => if a' = p ∧ b' = q then lcp (a.drop (p + 1)) (b.drop (q + 1)) + 1 else part a b p (q + 1) a' b') a.length b.length = tab (part a b p q) a.length b.length := tab_congr fun x y hx hy => by
        by_cases d : x = p ∧ y = q
        · obtain ⟨rfl, rfl⟩ := d
          rw [if_pos ⟨rfl, rfl⟩]
          unfold part
          rw [if_pos (by omega), lcp_drop hp hql, if_pos c]
        · rw [if_neg d]
          unfold part
          by_cases k : p < x ∨ (x = p ∧ q + 1 ≤ y)
          · rw [if_pos k, if_pos (by omega)]
          · rw [if_neg k, if_neg (by omega)]
      simp [c, s1, s2, tab_kid (show p ≤ a.length by omega), st2D]
      have e4 : ixN (row (part a b p (q + 1) p) b.length).length (q : Int) = some q := ixN_n (by unfold row; simp; omega)
      rw [e4]
      have e5 := tab_set (F := part a b p (q + 1)) (n := a.length) (m := b.length) (a := p) (b := q) (v := lcp (a.drop (p + 1)) (b.drop (q + 1)) + 1) (by omega) (by omega)
      rw [s3] at e5
      simp at e5
      simp [e5]
    · have s3 : tab (part a b p (q + 1)) a.length b.length = tab (part a b p q) a.length b.length := tab_congr fun x y hx hy => by
        unfold part
        by_cases k : p < x ∨ (x = p ∧ q + 1 ≤ y)
        · rw [if_pos k, if_pos (by omega)]
        · rw [if_neg k]
          split
          · have hx : x = p := by omega
            have hy : y = q := by omega
            subst hx hy
            rw [lcp_drop hp hql, if_neg c]
          · rfl
      have c2 : (a[p] == b[q]) = false := by simpa using c
      simp [c2, s3]
  obtain ⟨ρ', e, z', h⟩ := forL_inv (fun j ρ => ∃ z, ρ = [Sl.val (.str a), .val (.str b), .ow2 (tab (part a b p (b.length - j)) a.length b.length), w, .val (.int p), z]) h0 step
  refine ⟨z', ?_⟩
  rw [e, h]
  simp
theorem r_table (a b : List Nat) (ha : a.length ≤ 1000) (hb : b.length ≤ 1000) : s__shared_lengths [.str a, .str b] = pure (tab (fun x y => lcp (a.drop x) (b.drop y)) a.length b.length) := by
  have hL := lineV
  unfold s__shared_lengths f__shared_lengths
  rw [run_eq rfl]
  simp (disch := first | assumption | omega)
  rw [show (a.length : Int) + 1 = ((a.length + 1 : Nat) : Int) by omega, rng_nat (by omega)]
  simp (disch := first | assumption | omega)
  rw [compL_map (r := fun x : Nat => D.lst (row (fun _ => 0) b.length))]
  · have et : D.lst ((List.range (a.length + 1)).map fun x => D.lst (row (fun _ => 0) b.length)) = tab (fun _ _ => 0) a.length b.length := rfl
    have pz : ∀ n : Nat, D.pureL (row (fun _ => 0) n) = true := fun n => pureL_map _ _ fun _ _ => rfl
    have al : ((List.range (a.length + 1)).isEmpty || (List.range (a.length + 1)).all fun _ => true) = true := by
      rw [Bool.or_eq_true]; exact .inr (List.all_eq_true.mpr fun _ _ => rfl)
    simp (disch := first | assumption | omega) [pz, Function.comp_def, al]
    rw [et, rng_down ha]
    simp
    refine for_go (fun i ρ => ∃ x y z, ρ = [.val (.str a), .val (.str b), .ow2 (tab (part a b (a.length - i) 0) a.length b.length), x, y, z]) ⟨.no, .no, .no, ?_⟩ ?_ ?_
    · have e0 : tab (fun _ _ => 0) a.length b.length = tab (part a b (a.length - 0) 0) a.length b.length := tab_congr fun x y hx hy => by
        unfold part
        split
        · rename_i h
          have : x = a.length := by omega
          subst this
          rw [List.drop_length]; rfl
        · rfl
      rw [e0]
    · rintro i h ρ ⟨x, y, z, rfl⟩
      simp at h
      simp (disch := first | assumption | omega)
      rw [rng_down hb]
      simp
      have hi : ((a.length : Int) - 1 - i) = ((a.length - (i + 1) : Nat) : Int) := by omega
      rw [hi]
      obtain ⟨p, hp⟩ : ∃ p, p = a.length - (i + 1) := ⟨_, rfl⟩
      have hpl : p < a.length := by omega
      have hp1 : a.length - i = p + 1 := by omega
      rw [hp1, ← hp]
      obtain ⟨z', e⟩ := inner a b ha hb p hpl x z
      unfold inB at e
      rw [e]
      exact ⟨_, .inl rfl, _, _, _, rfl⟩
    · rintro ρ' ⟨x, y, z, rfl⟩
      simp
      refine congrArg pure (tab_congr fun x y hx hy => ?_)
      unfold part
      rw [if_pos (by omega)]
  · intro x hx
    unfold cmpF
    simp (disch := first | assumption | omega)
    rw [bin_mulL ⟨by omega, by omega, by simp; omega⟩]
    simp [row]
    rw [List.map_const', List.length_range]
end K89
set_option Elab.async false
set_option linter.all false
set_option maxRecDepth 100000
set_option maxHeartbeats 1000000
/-! what the defs of law k89 reckon: the longest repeat -/
namespace K89
open L2 TI
theorem fold_take' {α β : Type} (f : β → α → β) (s : β) (l : List α) {i : Nat} (h : i < l.length) : (l.take (i + 1)).foldl f s = f ((l.take i).foldl f s) l[i] := by
  rw [List.take_succ_eq_append_getElem h, List.foldl_append]; rfl
theorem ev_mxd {ρ : List Sl} {a : Ex} {d : Int} : ev (.mxd a d) ρ = (do
    match ← ev a ρ with
    | .lst xs => match intsOf xs with
      | some (n :: ns) => pure (.int (maxI n ns))
      | some [] => pure (.int d)
      | none => M.stk
    | _ => M.stk) := by first | (rw [ev]; done) | (rw [ev]; rfl)
theorem maxI_nat : ∀ (l : List Nat) (a : Nat), maxI (a : Int) (l.map fun k : Nat => (k : Int)) = ((l.foldl max a : Nat) : Int)
  | [], a => rfl
  | x :: l, a => by
    show maxI (if (a : Int) < x then (x : Int) else a) _ = _
    rw [List.foldl_cons]
    by_cases h : a < x
    · rw [if_pos (by omega), maxI_nat l x, Nat.max_eq_right (by omega)]
    · rw [if_neg (by omega), maxI_nat l a, Nat.max_eq_left (by omega)]
theorem mxd_nat {ρ : List Sl} {a : Ex} {l : List Nat} (h : ev a ρ = pure (.lst (l.map fun k : Nat => D.int k))) : ev (.mxd a 0) ρ = pure (.int (mx l : Nat)) := by
  rw [ev_mxd, h]
  simp only [pure_bind]
  rw [intsOf_map]
  cases l with
  | nil => rfl
  | cons x l =>
    show pure (D.int (maxI (x : Int) (l.map fun k : Nat => (k : Int)))) = _
    rw [maxI_nat]
    show _ = pure (D.int ((l.foldl max (max 0 x) : Nat) : Int))
    rw [Nat.zero_max]
def shares (t : List Nat) (k : Nat) : List Nat := ((List.range (t.length + 1)).map fun y => lcp (t.drop k) (t.drop y)).drop (k + 1)
def manyAt (t : List Nat) (k : Nat) : Nat := mx (shares t k)
def lrStep (t : List Nat) (best : T) (k : Nat) : T := if best.length < manyAt t k ∨ (manyAt t k = best.length ∧ ltN ((t.drop k).take (manyAt t k)) best = true) then (t.drop k).take (manyAt t k) else best
def bestR (t : List Nat) : T := (List.range (t.length + 1)).foldl (lrStep t) []
theorem lrStep_len {t : List Nat} {best : T} {k : Nat} (h : best.length ≤ t.length) : (lrStep t best k).length ≤ t.length := by
  unfold lrStep
  split
  · simp; omega
  · exact h
theorem best_len {t : List Nat} : ∀ (l : List Nat) (best : T), best.length ≤ t.length → (l.foldl (lrStep t) best).length ≤ t.length
  | [], _, h => h
  | k :: l, best, h => best_len l _ (lrStep_len h)
theorem r_longest_repeat (t : List Nat) (ht : t.length ≤ 1000) : s_longest_repeat [.str t] = pure (.str (bestR t)) := by
  have hL := lineV
  unfold s_longest_repeat f_longest_repeat
  rw [run_eq rfl]
  simp (disch := first | assumption | omega) [r_table t t ht ht, tab, enum_map]
  refine for_go (fun i ρ => ∃ x y z w, ρ = [.val (.str t), .val (.str (((List.range (t.length + 1)).take i).foldl (lrStep t) [])), x, y, z, w]) ⟨.no, .no, .no, .no, ?_⟩ ?_ ?_
  · simp; rfl
  · rintro i h ρ ⟨x, y, z, w, rfl⟩
    simp at h
    rw [fold_take' (lrStep t) [] _ (by simpa using h)]
    have hbl := best_len (t := t) ((List.range (t.length + 1)).take i) [] (by simp)
    generalize ((List.range (t.length + 1)).take i).foldl (lrStep t) [] = best at hbl
    simp
    have e1 : ev (.mxd (.slc (.var 3) (.so (.bin .Add (.var 2) (.con (.int 1)))) .no) 0) [.val (.str t), .val (.str best), .val (.int i), .val (.lst (row (fun y => lcp (t.drop i) (t.drop y)) t.length)), z, w] = pure (.int (manyAt t i : Nat)) := by
      refine mxd_nat ?_
      simp
      rw [show (i : Int) + 1 = ((i + 1 : Nat) : Int) by omega, cutL_from]
      unfold row shares
      rw [List.map_drop, List.map_map]; rfl
    simp only [e1]
    simp (disch := first | assumption | omega) [cutL_part, ltS_eq]
    by_cases c1 : best.length < manyAt t i
    · simp [c1, lrStep]
      exact ⟨_, .inl rfl, _, _, _, _, rfl⟩
    · by_cases c2 : manyAt t i = best.length
      · by_cases c3 : ltN ((t.drop i).take best.length) best = true
        · simp [c2, c3, lrStep]
          exact ⟨_, .inl rfl, _, _, _, _, rfl⟩
        · simp [c2, c3, lrStep]
          exact ⟨_, .inl rfl, _, _, _, _, rfl⟩
      · have c4 : ¬ ((manyAt t i : Int) = (best.length : Int)) := by omega
        have c5 : ((manyAt t i : Int) == (best.length : Int)) = false := by simpa using c4
        simp [c1, c2, c4, c5, lrStep]
        exact ⟨_, .inl rfl, _, _, _, _, rfl⟩
  · rintro ρ' ⟨x, y, z, w, rfl⟩
    simp; rfl
theorem r_repeat_length (t : List Nat) (ht : t.length ≤ 1000) : s_repeat_length [.str t] = pure (.int (bestR t).length) := by
  have hL := lineV
  have := best_len (t := t) (List.range (t.length + 1)) [] (by simp)
  have hb : (bestR t).length ≤ t.length := this
  unfold s_repeat_length f_repeat_length
  rw [run_eq rfl]
  simp (disch := first | assumption | omega) [r_longest_repeat t ht]
end K89
set_option Elab.async false
set_option linter.all false
set_option maxRecDepth 100000
set_option maxHeartbeats 1000000
/-! law k89: the mathematics of repeats, and of parts among the ends -/
namespace K89
open L2 TI
/-! ### the number of parts -/
theorem sum_cast : ∀ l : List Nat, (l.map fun k : Nat => (k : Int)).sum = ((l.sum : Nat) : Int)
  | [] => rfl
  | x :: l => by rw [List.map_cons, List.sum_cons, List.sum_cons, sum_cast l]; omega
theorem perm_sum {l k : List Nat} (h : l.Perm k) : l.sum = k.sum := by
  induction h with
  | nil => rfl
  | cons x _ ih => simp [ih]
  | swap x y l => simp; omega
  | trans _ _ h1 h2 => exact h1.trans h2
theorem sum_down (n : Nat) : 2 * ((List.range n).map fun k => n - k).sum = n * (n + 1) := by
  induction n with
  | zero => rfl
  | succ n ih =>
    rw [List.range_succ_eq_map, List.map_cons, List.map_map, List.sum_cons]
    have : ((fun k => n + 1 - k) ∘ Nat.succ) = fun k => n - k := by funext k; simp
    rw [this, Nat.mul_add, ih]
    simp [Nat.mul_add, Nat.add_mul]; omega
theorem parts_number (t : List Nat) : ((List.range t.length).map fun k => (((reps (k + 1) (sufs t)).length : Nat) : Int)).sum = (t.length : Int) * (t.length + 1) / 2 - ((adj (sufs t)).map fun k : Nat => (k : Int)).sum := by
  have h1 := reps_sum t.length (sufs t) fun a ha => by
    obtain ⟨k, hk, rfl⟩ := mem_sufs.mp ha
    simp
  have h2 : ((sufs t).map List.length).sum = ((List.range t.length).map fun k => t.length - k).sum := by
    unfold sufs
    rw [List.map_map]
    have := perm_sum (((ordr_perm (fSuf t) t.length)).map (List.length ∘ fSuf t))
    unfold sa
    rw [this]
    congr 1
    refine List.map_congr_left fun k _ => ?_
    simp [fSuf]
  have h3 := sum_down t.length
  rw [← h2, ← h1] at h3
  rw [sum_cast, show ((List.range t.length).map fun k => (((reps (k + 1) (sufs t)).length : Nat) : Int)) = (((List.range t.length).map fun k => (reps (k + 1) (sufs t)).length).map fun k : Nat => (k : Int)) by rw [List.map_map]; rfl, sum_cast]
  have h4 : (t.length : Int) * (t.length + 1) = ((t.length * (t.length + 1) : Nat) : Int) := by simp
  rw [h4, ← h3]
  omega
/-! ### parts that stand at two places -/
theorem cnt_two {α : Type} {p : α → Bool} : ∀ {l : List α}, 1 < l.countP p ↔ 1 < (l.filter p).length := by
  intro l; rw [List.countP_eq_length_filter]
theorem suf_cnt (t : List Nat) (m : Nat) (hm : 0 < m) (p : T) : ((sufs t).countP fun s => decide (m ≤ s.length ∧ s.take m = p)) = (pos t m (nof t m) p).length := by
  have h1 : ((sufs t).countP fun s => decide (m ≤ s.length ∧ s.take m = p)) = (List.range t.length).countP fun k => decide (m ≤ t.length - k ∧ (t.drop k).take m = p) := by
    unfold sufs
    rw [List.countP_map]
    show List.countP _ (ordr (fSuf t) t.length) = _
    rw [((ordr_perm (fSuf t) t.length)).countP_eq]
    congr 1
    funext k
    simp only [Function.comp, fSuf, List.length_drop]
  rw [h1]
  unfold pos nof
  rw [← List.countP_eq_length_filter]
  by_cases h : m ≤ t.length
  · have e : t.length = (t.length + 1 - m) + (m - 1) := by omega
    have : List.range t.length = List.range (t.length + 1 - m) ++ (List.range (m - 1)).map fun x => (t.length + 1 - m) + x := by
      conv => lhs; rw [e]
      rw [List.range_add]
    rw [this, List.countP_append]
    have z : ((List.range (m - 1)).map fun x => (t.length + 1 - m) + x).countP (fun k => decide (m ≤ t.length - k ∧ (t.drop k).take m = p)) = 0 := by
      rw [List.countP_eq_zero]
      intro a ha
      obtain ⟨x, hx, rfl⟩ := List.mem_map.mp ha
      simp
      intro h; omega
    rw [z, Nat.add_zero]
    refine List.countP_congr fun k hk => ?_
    have := List.mem_range.mp hk
    simp [prt]
    intro _; omega
  · rw [show t.length + 1 - m = 0 by omega]
    simp
    intro a ha h; omega
/-- the law's repeated parts are the program's -/
theorem rep2_eq (t : List Nat) (m : Nat) (hm : 0 < m) : rep2 t m = (reps m (sufs t)).filter fun p => decide (1 < (pos t m (nof t m) p).length) := by
  obtain ⟨l1, l2⟩ := lay_all (twos m (sufs t)) [] .nil (twos_pw sufs_le) (by simp)
  refine pw_uq l1 ((reps_pw sufs_le).filter _) fun p => ?_
  unfold rep2
  rw [l2, List.mem_filter]
  have := twos_cnt (m := m) (p := p) (sufs_le (t := t))
  rw [suf_cnt t m hm p] at this
  rw [this]
  simp
  intro h
  exact (twos_mem (this.mpr h)).1
/-! ### the longest repeat -/
theorem twos_ex {m : Nat} {p : T} : ∀ {L : List T}, p ∈ twos m L → ∃ i a b, L[i]? = some a ∧ L[i + 1]? = some b ∧ m ≤ lcp a b ∧ a.take m = p
  | [], h => by simp [twos] at h
  | [_], h => by simp [twos] at h
  | a :: b :: r, h => by
    have up : p ∈ twos m (b :: r) → ∃ i x y, (a :: b :: r)[i]? = some x ∧ (a :: b :: r)[i + 1]? = some y ∧ m ≤ lcp x y ∧ x.take m = p := fun h => by
      obtain ⟨i, x, y, h1, h2, h3⟩ := twos_ex h
      exact ⟨i + 1, x, y, by simpa using h1, by simpa using h2, h3⟩
    rw [show twos m (a :: b :: r) = if m ≤ lcp a b then a.take m :: twos m (b :: r) else twos m (b :: r) by rfl] at h
    split at h
    · rename_i c
      rcases List.mem_cons.mp h with rfl | h
      · exact ⟨0, a, b, rfl, rfl, c, rfl⟩
      · exact up h
    · exact up h
theorem mem_shares {t : List Nat} {k x : Nat} : x ∈ shares t k ↔ ∃ y, k < y ∧ y ≤ t.length ∧ lcp (t.drop k) (t.drop y) = x := by
  unfold shares
  rw [List.mem_iff_getElem?]
  constructor
  · rintro ⟨i, hi⟩
    rw [List.getElem?_drop, List.getElem?_map] at hi
    by_cases c : k + 1 + i < t.length + 1
    · rw [List.getElem?_range c] at hi
      exact ⟨k + 1 + i, by omega, by omega, by simpa using hi⟩
    · rw [List.getElem?_eq_none (by simpa using c)] at hi
      simp at hi
  · rintro ⟨y, h1, h2, h3⟩
    refine ⟨y - (k + 1), ?_⟩
    rw [List.getElem?_drop, List.getElem?_map, show k + 1 + (y - (k + 1)) = y by omega, List.getElem?_range (by omega)]
    simp [h3]
theorem sufs_at {t : List Nat} {i : Nat} {a : T} (h : (sufs t)[i]? = some a) : ∃ h2 : i < (sa t).length, a = t.drop ((sa t)[i]) ∧ (sa t)[i] < t.length := by
  unfold sufs at h
  rw [List.getElem?_map] at h
  cases e : (sa t)[i]? with
  | none => rw [e] at h; cases h
  | some k =>
    rw [e] at h
    obtain ⟨h2, h3⟩ := List.getElem?_eq_some_iff.mp e
    refine ⟨h2, ?_, sa_lt (List.getElem_mem h2)⟩
    rw [h3]; simpa [fSuf] using h.symm
theorem pair_le {t : List Nat} {j y : Nat} (h : j < y) (hy : y ≤ t.length) : lcp (t.drop j) (t.drop y) ≤ mx (adj (sufs t)) := by
  by_cases c : y = t.length
  · subst c
    rw [List.drop_length, lcp_nil_r]; omega
  · have P := adj_mx (sufs_le (t := t))
    have hj : j ∈ sa t := ordr_mem.mpr (by omega)
    have hy2 : y ∈ sa t := ordr_mem.mpr (by omega)
    obtain ⟨a, ha, ea⟩ := List.getElem_of_mem hj
    obtain ⟨b, hb, eb⟩ := List.getElem_of_mem hy2
    unfold sufs at P
    rw [List.pairwise_map] at P
    have Q := List.pairwise_iff_getElem.mp P
    rcases Nat.lt_trichotomy a b with k | k | k
    · have := Q a b ha hb k
      rw [ea, eb] at this; exact this
    · subst k; rw [ea] at eb; omega
    · have := Q b a hb ha k
      rw [ea, eb, lcp_comm] at this; exact this
theorem many_le {t : List Nat} {k : Nat} : manyAt t k ≤ mx (adj (sufs t)) := mx_le fun x hx => by
  obtain ⟨y, h1, h2, rfl⟩ := mem_shares.mp hx
  exact pair_le h1 h2
theorem many_ge {t : List Nat} {i : Nat} {a b : T} (h1 : (sufs t)[i]? = some a) (h2 : (sufs t)[i + 1]? = some b) : ∃ j, j < t.length ∧ lcp a b ≤ manyAt t j ∧ (t.drop j).take (lcp a b) = a.take (lcp a b) := by
  obtain ⟨q1, rfl, r1⟩ := sufs_at h1
  obtain ⟨q2, rfl, r2⟩ := sufs_at h2
  have ne : (sa t)[i] ≠ (sa t)[i + 1] := List.pairwise_iff_getElem.mp (ordr_nodup (fSuf t) t.length) i (i + 1) q1 q2 (by omega)
  rcases Nat.lt_or_ge (sa t)[i] (sa t)[i + 1] with k | k
  · exact ⟨_, r1, le_mx (mem_shares.mpr ⟨_, k, by omega, rfl⟩), rfl⟩
  · refine ⟨_, r2, le_mx (mem_shares.mpr ⟨_, (show (sa t)[i + 1] < (sa t)[i] by omega), by omega, lcp_comm⟩), ?_⟩
    exact (lcp_iff.mp (Nat.le_refl _)).1.symm
structure BestIs (t : List Nat) (i : Nat) (best : T) : Prop where
  up : ∀ j, j < i → manyAt t j ≤ best.length
  fr : best = [] ∨ ∃ j, j < i ∧ best = (t.drop j).take (manyAt t j) ∧ best.length = manyAt t j
  le : ∀ j, j < i → manyAt t j = best.length → leN best ((t.drop j).take (manyAt t j))
theorem many_len {t : List Nat} {j : Nat} : manyAt t j ≤ (t.drop j).length := mx_le fun x hx => by
  obtain ⟨y, h1, h2, rfl⟩ := mem_shares.mp hx
  exact lcp_le_left
theorem best_is (t : List Nat) : ∀ i, BestIs t i ((List.range i).foldl (lrStep t) [])
  | 0 => ⟨fun j h => by omega, .inl rfl, fun j h => by omega⟩
  | i + 1 => by
    have ih := best_is t i
    rw [List.range_succ, List.foldl_append]
    show BestIs t (i + 1) (lrStep t ((List.range i).foldl (lrStep t) []) i)
    generalize (List.range i).foldl (lrStep t) [] = best at ih
    have hl : ((t.drop i).take (manyAt t i)).length = manyAt t i := by
      have := many_len (t := t) (j := i)
      rw [List.length_take]; omega
    unfold lrStep
    split
    · rename_i c
      refine ⟨fun j hj => ?_, .inr ⟨i, by omega, rfl, hl⟩, fun j hj e => ?_⟩
      · rw [hl]
        by_cases q : j = i
        · subst q; exact Nat.le_refl _
        · have := ih.up j (by omega)
          omega
      · rw [hl] at e
        by_cases q : j = i
        · subst q; exact .rf
        · have h1 := ih.up j (by omega)
          rcases c with c | ⟨c, d⟩
          · omega
          · exact (leN_lt d).trans (ih.le j (by omega) (by omega))
    · rename_i c
      refine ⟨fun j hj => ?_, ?_, fun j hj e => ?_⟩
      · by_cases q : j = i
        · subst q; omega
        · exact ih.up j (by omega)
      · rcases ih.fr with h | ⟨j, h1, h2⟩
        · exact .inl h
        · exact .inr ⟨j, by omega, h2⟩
      · by_cases q : j = i
        · subst q
          unfold leN
          cases e2 : ltN ((t.drop j).take (manyAt t j)) best with
          | false => rfl
          | true => exact absurd (.inr ⟨e, e2⟩) c
        · exact ih.le j (by omega) e
/-- the longest repeat: what two neighbours first have most of in common -/
theorem best_eq (t : List Nat) : bestR t = if 0 < mx (adj (sufs t)) then firstAt (mx (adj (sufs t))) (sufs t) else [] := by
  have B := best_is t (t.length + 1)
  have hB : (List.range (t.length + 1)).foldl (lrStep t) [] = bestR t := rfl
  rw [hB] at B
  have hle : (bestR t).length ≤ mx (adj (sufs t)) := by
    rcases B.fr with h | ⟨j, _, _, h⟩
    · rw [h]; simp
    · rw [h]; exact many_le
  by_cases z : 0 < mx (adj (sufs t))
  · rw [if_pos z]
    have hin := firstAt_in (mx_mem z)
    obtain ⟨i, a, b, h1, h2, h3, h4⟩ := twos_ex hin
    have h5 : lcp a b = mx (adj (sufs t)) := by
      obtain ⟨q1, rfl, r1⟩ := sufs_at h1
      obtain ⟨q2, rfl, r2⟩ := sufs_at h2
      refine Nat.le_antisymm ?_ h3
      have ne : (sa t)[i] ≠ (sa t)[i + 1] := List.pairwise_iff_getElem.mp (ordr_nodup (fSuf t) t.length) i (i + 1) q1 q2 (by omega)
      rcases Nat.lt_or_ge (sa t)[i] (sa t)[i + 1] with k | k
      · exact pair_le k (by omega)
      · rw [lcp_comm]; exact pair_le (show (sa t)[i + 1] < (sa t)[i] by omega) (by omega)
    obtain ⟨j, g1, g2, g3⟩ := many_ge h1 h2
    rw [h5] at g2 g3
    have g4 : manyAt t j = mx (adj (sufs t)) := Nat.le_antisymm many_le g2
    have g5 : (bestR t).length = mx (adj (sufs t)) := Nat.le_antisymm hle (by rw [← g4]; exact B.up j (by omega))
    have k1 : leN (bestR t) (firstAt (mx (adj (sufs t))) (sufs t)) := by
      have := B.le j (by omega) (by rw [g4, g5])
      rw [g4, g3, h4] at this; exact this
    have k2 : bestR t ∈ twos (mx (adj (sufs t))) (sufs t) := by
      rcases B.fr with h | ⟨j', q1, q2, q3⟩
      · rw [h] at g5; simp at g5; omega
      · have q4 : manyAt t j' = mx (adj (sufs t)) := by rw [← q3, g5]
        have q5 : 0 < mx (shares t j') := by
          show 0 < manyAt t j'
          omega
        obtain ⟨y, w1, w2, w3⟩ := mem_shares.mp (mx_mem q5)
        have w3 : lcp (t.drop j') (t.drop y) = mx (adj (sufs t)) := by rw [w3]; exact q4
        have w4 : y < t.length := by
          by_cases c : y = t.length
          · subst c
            rw [List.drop_length, lcp_nil_r] at w3; omega
          · omega
        obtain ⟨v1, v2, v3⟩ := lcp_iff.mp (Nat.le_of_eq w3.symm)
        rw [twos_cnt sufs_le, suf_cnt t _ z]
        have m1 : j' ∈ pos t (mx (adj (sufs t))) (nof t (mx (adj (sufs t)))) (bestR t) := by
          unfold pos nof prt
          rw [List.mem_filter, List.mem_range]
          rw [List.length_drop] at v2
          exact ⟨by omega, by rw [q2, q4]; simp⟩
        have m2 : y ∈ pos t (mx (adj (sufs t))) (nof t (mx (adj (sufs t)))) (bestR t) := by
          unfold pos nof prt
          rw [List.mem_filter, List.mem_range]
          rw [List.length_drop] at v3
          exact ⟨by omega, by rw [q2, q4, v1]; simp⟩
        cases e : pos t (mx (adj (sufs t))) (nof t (mx (adj (sufs t)))) (bestR t) with
        | nil => rw [e] at m1; simp at m1
        | cons x l =>
          cases l with
          | nil =>
            rw [e] at m1 m2
            have e1 : j' = x := by simpa using m1
            have e2 : y = x := by simpa using m2
            omega
          | cons x2 l => simp
    exact k1.anti (firstAt_least sufs_le (fun x hx => le_mx hx) _ k2)
  · rw [if_neg z]
    exact List.length_eq_zero_iff.mp (by omega)
theorem best_length (t : List Nat) : (bestR t).length = mx (adj (sufs t)) := by
  rw [best_eq]
  split
  · rename_i z
    obtain ⟨i, a, b, h1, h2, h3, h4⟩ := twos_ex (firstAt_in (mx_mem z))
    rw [← h4, List.length_take]
    have := lcp_le_left (a := a) (b := b)
    omega
  · rename_i z
    simp; omega
theorem rep2_none (t : List Nat) : rep2 t (mx (adj (sufs t)) + 1) = [] := by
  have key : ∀ (m : Nat) (L : List T), (∀ x ∈ adj L, x < m) → twos m L = [] := by
    intro m L
    induction L with
    | nil => intro _; rfl
    | cons a r ih =>
      intro h
      cases r with
      | nil => rfl
      | cons b r =>
        have h1 := h (lcp a b) (by simp [adj])
        rw [show twos m (a :: b :: r) = if m ≤ lcp a b then a.take m :: twos m (b :: r) else twos m (b :: r) by rfl, if_neg (by omega)]
        exact ih fun x hx => h x (List.mem_cons_of_mem _ hx)
  unfold rep2
  rw [key _ _ fun x hx => Nat.lt_succ_of_le (le_mx hx)]
  rfl
end K89
set_option Elab.async false
set_option linter.all false
set_option maxRecDepth 100000
set_option maxHeartbeats 4000000
/-! a body, statement by statement -/
namespace TI
open L2
section
variable {α : Type} {s : St} {ss : Sts} {ρ ρ' ρ1 : List Sl} {f : Out → M α} {r : M α} {d : D}
theorem sts_nx (ρ' : List Sl) (h : exS s ρ = pure (.nx ρ')) (k : (exSs ss ρ' >>= f) = r) : (exSs (.cons s ss) ρ >>= f) = r := by
  rw [exSs_nx h]; exact k
theorem sts_rt (d : D) (h : exS s ρ = pure (.rt d)) (k : f (.rt d) = r) : (exSs (.cons s ss) ρ >>= f) = r := by
  rw [exSs_rt h]; exact k
theorem sts_nil (k : f (.nx ρ) = r) : (exSs .nil ρ >>= f) = r := by
  rw [exSs_nil]; exact k
theorem sts_for {tg : Tg} {it : It} {a : Sts} {ds : List D} (ρ1 : List Sl) (hi : evIt it ρ = pure ds) (hf : frz ρ it.lk = ρ1) (I : Nat → List Sl → Prop) (h0 : I 0 ρ1)
    (step : ∀ i (h : i < ds.length) ρ, I i ρ → ∃ ρ', (forB tg a ds[i] ρ = pure (.nx ρ') ∨ forB tg a ds[i] ρ = pure (.ct ρ')) ∧ I (i + 1) ρ') (fin : ∀ ρ', I ds.length ρ' → (exSs ss ρ' >>= f) = r) : (exSs (.cons (.for_ tg it a) ss) ρ >>= f) = r := by
  obtain ⟨ρ', e, h⟩ := forL_inv I h0 step
  refine sts_nx ρ' ?_ (fin ρ' h)
  rw [exS_for, hi, lif_pure, hf, e]
theorem sts_forx {tg : Tg} {it : It} {a : Sts} {ds : List D} (ρ1 : List Sl) (hi : evIt it ρ = pure ds) (hf : frz ρ it.lk = ρ1) (I : Nat → List Sl → Prop) (E : Out → Prop) (h0 : I 0 ρ1)
    (step : ∀ i (h : i < ds.length) ρ, I i ρ → ∃ u, forB tg a ds[i] ρ = pure u ∧ match u with
      | .nx ρ' | .ct ρ' => I (i + 1) ρ'
      | .bk ρ' => E (.nx ρ')
      | u => E u) (fin : ∀ u, (E u ∨ ∃ ρ', u = .nx ρ' ∧ I ds.length ρ') → ((match u with
        | .nx ρ' => exSs ss ρ'
        | o => pure o) >>= f) = r) : (exSs (.cons (.for_ tg it a) ss) ρ >>= f) = r := by
  obtain ⟨u, e, h⟩ := forL_ex I E h0 step
  rw [exSs_cons, exS_for, hi, lif_pure, hf, e]
  exact fin u h
theorem run_go {fn : Fn} {ds : List D} {r : M D} (h : ds.length = fn.n) (k : (exSs fn.body (ds.map Sl.val ++ List.replicate (fn.m - fn.n) Sl.no) >>= fun u => match u with
    | .rt d => pure d
    | .nx _ => pure .non
    | .ex e _ => M.thr e
    | _ => M.stk) = r) : TI.run fn ds = r := by
  rw [run_eq h]; exact k
end
end TI
set_option Elab.async false
set_option linter.all false
set_option maxRecDepth 100000
set_option maxHeartbeats 1000000
/-! law k89: a thing is alike itself -/
namespace K89
open L2 TI
def okA : Nat → D → Prop
  | 0, _ => False
  | _ + 1, .non => True
  | _ + 1, .bl _ => True
  | _ + 1, .int _ => True
  | _ + 1, .str _ => True
  | n + 1, .tup xs => xs.length ≤ 1000 ∧ ∀ x ∈ xs, okA n x
  | n + 1, .lst xs => xs.length ≤ 1000 ∧ ∀ x ∈ xs, okA n x
  | _ + 1, _ => False
theorem r_alike : ∀ (n : Nat) (d : D), okA n d → s__law_alike n [d, d] = pure (.bl true)
  | 0, d, h => h.elim
  | n + 1, d, h => by
    have hL := lineV
    unfold s__law_alike f__law_alike
    rw [run_eq rfl]
    cases d with
    | non => simp
    | bl b => simp (disch := first | assumption | omega) [isTy, tyOk]
    | int i => simp (disch := first | assumption | omega) [isTy, tyOk]
    | str i => simp (disch := first | assumption | omega) [isTy, tyOk]
    | tup xs =>
      obtain ⟨h1, h2⟩ := h
      simp (disch := first | assumption | omega) [isTy, tyOk]
      rw [rng_nat (by omega)]
      simp
      refine for_go (fun i ρ => ∃ x, ρ = [.val (.tup xs), .val (.tup xs), x]) ⟨.no, rfl⟩ ?_ ?_
      · rintro i h ρ ⟨x, rfl⟩
        simp at h
        have := r_alike n _ (h2 _ (List.getElem_mem h))
        simp [atI_n h, this]
        exact ⟨_, .inl rfl, _, rfl⟩
      · rintro ρ' ⟨x, rfl⟩
        simp
    | lst xs =>
      obtain ⟨h1, h2⟩ := h
      simp (disch := first | assumption | omega) [isTy, tyOk]
      rw [rng_nat (by omega)]
      simp
      refine for_go (fun i ρ => ∃ x, ρ = [.val (.lst xs), .val (.lst xs), x]) ⟨.no, rfl⟩ ?_ ?_
      · rintro i h ρ ⟨x, rfl⟩
        simp at h
        have := r_alike n _ (h2 _ (List.getElem_mem h))
        simp [atI_n h, this]
        exact ⟨_, .inl rfl, _, rfl⟩
      · rintro ρ' ⟨x, rfl⟩
        simp
    | dK _ _ => exact h.elim
    | dT _ _ => exact h.elim
    | wel => exact h.elim
end K89
set_option Elab.async false
set_option linter.all false
set_option maxRecDepth 100000
set_option maxHeartbeats 2000000
/-! law k89: what is asked of the order of the ends -/
namespace K89
open L2 TI
theorem okT (n : Nat) {l : List Nat} (h : l.length ≤ 1000) : okA (n + 2) (.tup (l.map fun k : Nat => D.int k)) := by
  refine ⟨by simpa using h, fun x hx => ?_⟩
  obtain ⟨k, _, rfl⟩ := List.mem_map.mp hx
  trivial
theorem okS (n : Nat) {l : List T} (h : l.length ≤ 1000) : okA (n + 2) (.tup (l.map D.str)) := by
  refine ⟨by simpa using h, fun x hx => ?_⟩
  obtain ⟨k, _, rfl⟩ := List.mem_map.mp hx
  trivial
theorem shared_map (t : List Nat) : ((List.range (t.length - 1)).map fun k : Nat => D.int (lcp (t.drop ((sa t).getD k 0)) (t.drop ((sa t).getD (k + 1) 0)) : Nat)) = (adj (sufs t)).map fun k : Nat => D.int k := by
  have hs := sa_len (t := t)
  unfold sufs
  rw [← adj_map, List.map_map]
  apply List.ext_getElem?
  intro i
  rw [List.getElem?_map, List.getElem?_map]
  by_cases c : i < t.length - 1
  · have c1 : i < (sa t).length := by omega
    have c2 : i + 1 < (sa t).length := by omega
    have c3 : i < ((sa t).zip ((sa t).drop 1)).length := by simp; omega
    rw [List.getElem?_range c, List.getElem?_eq_getElem c3]
    simp only [Option.map_some, Function.comp, List.getElem_zip, List.getElem_drop, getD_get c1, getD_get c2, fSuf]
    have : 1 + i = i + 1 := by omega
    simp [this]
  · rw [List.getElem?_eq_none (by simpa using c), List.getElem?_eq_none (by simp; omega)]; rfl
/-- [_law_shared(text[order[k]:], text[order[k + 1]:]) for k in range(len(order) - 1)] -/
theorem ev_shared (t : List Nat) (ht : t.length ≤ 1000) (k : Nat) (hk : k < t.length - 1) : ∃ v, atI ((sa t).map fun k : Nat => D.int k) (k : Int) = some (.int v) ∧ ∃ w, atI ((sa t).map fun k : Nat => D.int k) ((k : Int) + 1) = some (.int w) ∧
    s__law_shared [.str (cutL t (some v) none), .str (cutL t (some w) none)] = pure (.int (lcp (t.drop ((sa t).getD k 0)) (t.drop ((sa t).getD (k + 1) 0)) : Nat)) := by
  have hs := sa_len (t := t)
  have cl : ∀ k : Nat, (t.drop k).length ≤ 1000 := fun k => by simp; omega
  have c1 : k < (sa t).length := by omega
  have c2 : k + 1 < (sa t).length := by omega
  refine ⟨((sa t)[k] : Nat), by rw [atI_n (by simpa using c1)]; simp, ((sa t)[k + 1] : Nat), by rw [show (k : Int) + 1 = ((k + 1 : Nat) : Int) by omega, atI_n (by simpa using c2)]; simp, ?_⟩
  rw [cutL_from, cutL_from, r_law_shared _ _ (cl _) (cl _), getD_get c1, getD_get c2]
theorem r_order_asked (t : List Nat) (ht : t.length ≤ 1000) : s__law_order_asked [.str t] = pure (.bl true) := by
  have hL := lineV
  have hs := sa_len (t := t)
  have hadj : (adj (sufs t)).length = t.length - 1 := by rw [adj_len]; unfold sufs; rw [List.length_map, hs]
  have a1 := r_alike 6 _ (okT 4 (l := sa t) (by omega))
  have a2 := r_alike 6 _ (okT 4 (l := rnk t t.length) (by rw [rnk_len]; omega))
  have a3 := r_alike 6 _ (okT 4 (l := adj (sufs t)) (by omega))
  obtain ⟨al, ra, hal⟩ := r_turns t ht
  have a4 := r_alike 6 (.tup [.str (lastC t), .int ((ro t).idxOf 0 : Nat)]) ⟨by simp, by simp [okA]⟩
  have a5 := r_alike 6 (.str t) trivial
  have s2 : ∀ a b c : D, atI [a, b, c] (1 : Int) = some b := fun a b c => rfl
  have s3 : ∀ a b c : D, atI [a, b, c] (0 : Int) = some a := fun a b c => rfl
  have s4 : ∀ a b c : D, atI [a, b, c] (2 : Int) = some c := fun a b c => rfl
  unfold s__law_order_asked f__law_order_asked
  refine run_go rfl ?_
  refine sts_nx [.val (.str t), .val (.lst ((sa t).map fun k : Nat => D.int k)), .no, .no, .no, .no, .no] (by simp [r_law_order t ht]) ?_
  refine sts_nx [.val (.str t), .val (.lst ((sa t).map fun k : Nat => D.int k)), .own (.lst ((rnk t 0).map fun k : Nat => D.int k)), .no, .no, .no, .no] ?_ ?_
  · simp (disch := first | assumption | omega) [hs]
    rw [compL_map (r := fun _ : Nat => D.int 0)]
    · have p0 : D.pureL ((sa t).map fun _ : Nat => D.int 0) = true := pureL_map _ _ fun _ _ => rfl
      have : (sa t).map (fun _ : Nat => D.int 0) = (rnk t 0).map fun k : Nat => D.int k := by
        unfold rnk; simp [List.map_const', hs]
      rw [this] at p0 ⊢
      simp [p0, Ex.fresh]
    · intro k hk
      unfold cmpF
      simp
  refine sts_for (ds := (List.range t.length).map fun k : Nat => D.int k) _ (by simp [hs]; rw [rng_nat (by omega)]) rfl (fun i ρ => ∃ x, ρ = [.val (.str t), .val (.lst ((sa t).map fun k : Nat => D.int k)), .own (.lst ((rnk t i).map fun k : Nat => D.int k)), x, .no, .no, .no]) ⟨.no, rfl⟩ ?_ ?_
  · rintro i h ρ ⟨x, rfl⟩
    simp at h
    have h2 : i < (sa t).length := by omega
    have h3 := sa_lt (List.getElem_mem h2)
    refine ⟨[.val (.str t), .val (.lst ((sa t).map fun k : Nat => D.int k)), .own (.lst ((rnk t (i + 1)).map fun k : Nat => D.int k)), .val (.int i), .no, .no, .no], .inl ?_, _, rfl⟩
    have s1 : atI ((sa t).map fun k : Nat => D.int k) (i : Int) = some (.int ((sa t)[i] : Nat)) := by
      rw [atI_n (by simpa using h2)]; simp
    simp [stiD, s1]
    rw [ixN_n (by rw [rnk_len]; exact h3)]
    simp [rnk, List.getD, h2, List.map_set]
  rintro ρ' ⟨x, rfl⟩
  simp only [List.length_map, List.length_range]
  refine sts_nx _ (by simp [r_end_order t ht, r_order_ranks t ht, a1, a2]; rfl) ?_
  refine sts_nx [.val (.str t), .val (.lst ((sa t).map fun k : Nat => D.int k)), .own (.lst ((rnk t t.length).map fun k : Nat => D.int k)), x, .val (.lst ((adj (sufs t)).map fun k : Nat => D.int k)), .no, .no] ?_ ?_
  · simp [hs]
    rw [rng_int (by omega) (by omega), show ((t.length : Int) - 1).toNat = t.length - 1 by omega]
    simp (disch := first | assumption | omega)
    rw [compL_map (r := fun k : Nat => D.int (lcp (t.drop ((sa t).getD k 0)) (t.drop ((sa t).getD (k + 1) 0)) : Nat)), shared_map]
    · simp
    · intro k hk
      obtain ⟨v, e1, w, e2, e3⟩ := ev_shared t ht k (List.mem_range.mp hk)
      unfold cmpF
      simp (disch := first | assumption | omega) [e1, e2, e3]
  refine sts_nx _ (by simp [r_shared_lengths t ht, a3]; rfl) ?_
  refine sts_nx [.val (.str t), .val (.lst ((sa t).map fun k : Nat => D.int k)), .own (.lst ((rnk t t.length).map fun k : Nat => D.int k)), x, .val (.lst ((adj (sufs t)).map fun k : Nat => D.int k)), .val (.int ((t.length : Int) * (t.length + 1) / 2 - (((adj (sufs t)).map fun k : Nat => (k : Int))).sum)), .no] ?_ ?_
  · have e1 : binD .Mult (.int (t.length : Int)) (.int ((t.length : Int) + 1)) = pure (.int ((t.length : Int) * (t.length + 1))) := bin_mulI (by unfold cmulB; simp; omega)
    simp (disch := first | assumption | omega) [e1]
  have a6 := r_alike 6 (.int ((t.length : Int) * (t.length + 1) / 2 - (((adj (sufs t)).map fun k : Nat => (k : Int))).sum)) trivial
  refine sts_nx _ (by simp [r_part_number_by_order t ht, a6]; rfl) ?_
  refine sts_nx _ (by simp (disch := first | assumption | omega) [r_part_number t ht, parts_number, a6]; rfl) ?_
  refine sts_nx _ (by simp [ra]; rfl) ?_
  refine sts_nx _ (by simp (disch := first | assumption | omega) [r_turned_columns t ht, s2, s3, a4]; rfl) ?_
  refine sts_rt (.bl true) ?_ rfl
  cases al with
  | true => simp [s2, s3, s4]
  | false => simp [s2, s3, s4, r_text_of_columns t ht (hal rfl), a5]
end K89
set_option Elab.async false
set_option linter.all false
set_option maxRecDepth 100000
set_option maxHeartbeats 2000000
/-! law k89: what is asked of parts -/
namespace K89
open L2 TI
/-- among things in the order of g: those below p, those at p -/
theorem cut_at (g : Nat → T) (p : T) : ∀ {l : List Nat}, l.Pairwise (fun a b => leN (g a) (g b)) → (l.drop (l.filter fun k => ltN (g k) p).length).take (l.filter fun k => g k == p).length = l.filter fun k => g k == p
  | [], _ => rfl
  | a :: l, h => by
    obtain ⟨h1, h2⟩ := List.pairwise_cons.mp h
    have ih := cut_at g p h2
    by_cases c : ltN (g a) p = true
    · have c2 : (g a == p) = false := by
        simp
        intro e; rw [e, sto_N.ir] at c; cases c
      rw [List.filter_cons_of_pos (p := fun k => ltN (g k) p) (a := a) (l := l) c, List.filter_cons_of_neg (by simp [c2])]
      simpa using ih
    · have low : l.filter (fun k => ltN (g k) p) = [] := by
        rw [List.filter_eq_nil_iff]
        intro b hb z
        exact c ((h1 b hb).lt z)
      rw [List.filter_cons_of_neg (p := fun k => ltN (g k) p) (a := a) (l := l) c, low]
      rw [low] at ih
      by_cases d : g a = p
      · rw [List.filter_cons_of_pos (by simpa using d)]
        simpa using ih
      · have hi : l.filter (fun k => g k == p) = [] := by
          rw [List.filter_eq_nil_iff]
          intro b hb z
          have z : g b = p := by simpa using z
          have := h1 b hb
          rw [z] at this
          rcases leN_cases this with k | k
          · exact c k
          · exact d k
        rw [List.filter_cons_of_neg (by simpa using d), hi]; rfl
def stt (t p : List Nat) : List Nat := (List.range (t.length + 1 - p.length)).filter fun k => (t.drop k).take p.length == p
theorem stt_all (t p : List Nat) (hp : 0 < p.length) : (List.range t.length).filter (fun k => (t.drop k).take p.length == p) = stt t p := by
  unfold stt
  by_cases h : p.length ≤ t.length
  · have e : t.length = (t.length + 1 - p.length) + (p.length - 1) := by omega
    conv => lhs; arg 2; rw [e]
    rw [List.range_add, List.filter_append]
    have : ((List.range (p.length - 1)).map fun x => (t.length + 1 - p.length) + x).filter (fun k => (t.drop k).take p.length == p) = [] := by
      rw [List.filter_eq_nil_iff]
      intro a ha z
      obtain ⟨x, hx, rfl⟩ := List.mem_map.mp ha
      have z : (t.drop (t.length + 1 - p.length + x)).take p.length = p := by simpa using z
      have := congrArg List.length z
      simp at this
      omega
    rw [this, List.append_nil]
  · rw [show t.length + 1 - p.length = 0 by omega]
    simp
    intro a ha z
    have := congrArg List.length z
    simp at this
    omega
theorem sa_stt (t p : List Nat) (hp : 0 < p.length) : ((sa t).filter fun k => (t.drop k).take p.length == p).Perm (stt t p) := by
  rw [← stt_all t p hp]
  exact (ordr_perm (fSuf t) t.length).filter _
theorem sort_ints {l k : List Nat} (p : k.Perm l) (h : k.Pairwise fun a b => a < b) : sortD (l.map fun k : Nat => D.int k) = k.map fun k : Nat => D.int k := by
  refine (sortD_uq (srtOk_map (fun k : Nat => D.int k) l (0, []) fun x _ => rfl) (p.map _) ?_).symm
  rw [List.pairwise_map]
  exact h.imp fun {a b} h => by rw [leD_int]; simp; omega
theorem eqL_refl : ∀ l : List Nat, eqL (l.map fun k : Nat => D.int k) (l.map fun k : Nat => D.int k) = true
  | [] => rfl
  | x :: l => by
    show (eqB (.int x) (.int x) && eqL (l.map fun k : Nat => D.int k) (l.map fun k : Nat => D.int k)) = true
    rw [eqL_refl l]; simp [eqB]
theorem flatL_ints : ∀ l : List Nat, D.flatL (l.map fun k : Nat => D.int k) = true
  | [] => rfl
  | x :: l => by
    show (D.flat (.int x) && D.flatL (l.map fun k : Nat => D.int k)) = true
    rw [flatL_ints l]; rfl
theorem depL_ints : ∀ l : List Nat, D.depL (l.map fun k : Nat => D.int k) = 0
  | [] => rfl
  | x :: l => by
    show max (D.dep (.int x)) (D.depL (l.map fun k : Nat => D.int k)) = 0
    rw [depL_ints l]; rfl
theorem cmp_ints (l : List Nat) : (D.lst (l.map fun k : Nat => D.int k)).cmpOk = true := by
  unfold D.cmpOk
  show (D.flatL _ && decide (D.depL _ + 1 ≤ 60)) = true
  rw [flatL_ints, depL_ints]; rfl
theorem eq_ints (l : List Nat) : eqD (.lst (l.map fun k : Nat => D.int k)) (.lst (l.map fun k : Nat => D.int k)) = pure true := by
  unfold eqD
  rw [grd_true (by rw [cmp_ints]; rfl)]
  show pure (eqL _ _) = _
  rw [eqL_refl]
theorem r_part_asked (t p : List Nat) (ht : t.length ≤ 1000) (hp : p.length ≤ 1000) (hp0 : 0 < p.length) : s__law_part_asked [.str t, .lst ((sa t).map fun k : Nat => D.int k), .str p] = pure (.bl true) := by
  have hL := lineV
  have hs := sa_len (t := t)
  have hst : (stt t p).length ≤ 1000 := by
    have := List.length_filter_le (fun k => (t.drop k).take p.length == p) (List.range (t.length + 1 - p.length))
    unfold stt
    simp at this; omega
  obtain ⟨A, hA⟩ : ∃ A, A = ((sa t).filter fun k => ltN ((t.drop k).take p.length) p).length := ⟨_, rfl⟩
  have hC := (sa_stt t p hp0).length_eq
  have r1 := r_ends_with_part t p ht hp
  rw [hC, ← hA] at r1
  have r2 := r_places_of p t hp ht
  have r3 := r_place_count p t hp ht
  have r4 := r_starts p t hp ht
  have fold : (List.range (t.length + 1 - p.length)).filter (fun k => (t.drop k).take p.length == p) = stt t p := rfl
  rw [fold] at r2 r3 r4
  have a1 := r_alike 6 (.tup [.int (A : Nat), .int ((A : Int) + ((stt t p).length : Nat))]) ⟨by simp, by simp [okA]⟩
  have a2 := r_alike 6 _ (okT 4 hst)
  have a3 := r_alike 6 (.int ((stt t p).length : Nat)) trivial
  have e1 : cutL ((sa t).map fun k : Nat => D.int k) (some (A : Int)) (some ((A : Int) + ((stt t p).length : Nat))) = ((sa t).filter fun k => (t.drop k).take p.length == p).map fun k : Nat => D.int k := by
    rw [cutL_part, ← List.map_drop, ← List.map_take]
    congr 1
    rw [← hC, hA]
    have O := (ordr_pw (fSuf t) t.length).imp lePf_le
    exact cut_at (fun k => (t.drop k).take p.length) p (O.imp fun h => leN_take p.length h)
  have e2 : bltD .sorted [.lst (((sa t).filter fun k => (t.drop k).take p.length == p).map fun k : Nat => D.int k)] = pure (.lst ((stt t p).map fun k : Nat => D.int k)) := by
    rw [blt_srt (srtOk_map (fun k : Nat => D.int k) _ (0, []) fun x _ => rfl), sort_ints (sa_stt t p hp0).symm]
    exact List.pairwise_lt_range.filter _
  unfold s__law_part_asked f__law_part_asked
  refine run_go rfl ?_
  refine sts_nx [.val (.str t), .val (.lst ((sa t).map fun k : Nat => D.int k)), .val (.str p), .val (.lst ((stt t p).map fun k : Nat => D.int k)), .no, .no] (by simp [r4]) ?_
  refine sts_nx [.val (.str t), .val (.lst ((sa t).map fun k : Nat => D.int k)), .val (.str p), .val (.lst ((stt t p).map fun k : Nat => D.int k)), .val (.int (A : Nat)), .no] ?_ ?_
  · simp (disch := first | assumption | omega) [hs]
    rw [compL_fil (c := fun k => ltN ((t.drop k).take p.length) p) (r := fun k : Nat => D.int k)]
    · simp [hA]
    · intro k hk
      unfold cmpF
      simp (disch := first | assumption | omega) [cutL_part, ite_pure, ltS_eq]
  refine sts_nx _ (by simp (disch := first | assumption | omega) [r1, a1]; rfl) ?_
  refine sts_nx _ (by simp (disch := first | assumption | omega) [r2, a2]; rfl) ?_
  refine sts_nx _ (by simp (disch := first | assumption | omega) [r3, a3]; rfl) ?_
  refine sts_rt (.bl true) ?_ rfl
  simp [e1, e2, eq_ints]
theorem map_strD (l : List T) : (l.map Ky.s).map Ky.d = l.map D.str := map_d l
theorem keyl_ev {ρ : List Sl} {i x : Nat} {ks : List Ky} {vs : List D} (h : vget ρ i = some (.dK ks vs)) (hl : ks.length ≤ line) : ev (.keyl i x) ρ = pure (.lst (ks.map Ky.d)) := by
  rw [ev]
  simp only [h]
  rw [grd_dec hl]
theorem look_gram {t : List Nat} {m i : Nat} {p : T} (w : List Nat → D) (h : p ∈ keysT t m i) : subD (gramD w t m i) (.str p) = pure (w (pos t m i p)) := by
  show opt (lookA (Ky.s p) _ _) = _
  rw [look_map, if_pos h]; rfl
theorem okG (n : Nat) {t : List Nat} {m i : Nat} {l : List T} (h : l.length ≤ 1000) (hi : i ≤ 1000) : okA (n + 4) (.tup (l.map fun p => D.tup [.str p, .tup ((pos t m i p).map fun k : Nat => D.int k)])) := by
  refine ⟨by simpa using h, fun x hx => ?_⟩
  obtain ⟨p, _, rfl⟩ := List.mem_map.mp hx
  refine ⟨by simp, fun y hy => ?_⟩
  have hl := pos_len (t := t) (m := m) (i := i) (p := p)
  simp at hy
  rcases hy with rfl | rfl
  · trivial
  · exact okT n (by omega)
theorem r_repeats_asked (t : List Nat) (m : Nat) (ht : t.length ≤ 1000) (hm : 0 < m) (hm2 : m ≤ 2000) : s__law_repeats_asked [.str t, .int m] = pure (.bl true) := by
  have hL := lineV
  have hn : nof t m ≤ 1000 := by unfold nof; omega
  have hk := keysT_len (t := t) (m := m) (nof t m)
  have hr : (reps m (sufs t)).length ≤ 1000 := by
    have := (keys_reps (t := t) hm).length_eq
    omega
  have hf : ((reps m (sufs t)).filter fun p => decide (1 < (pos t m (nof t m) p).length)).length ≤ 1000 := Nat.le_trans (List.length_filter_le _ _) hr
  have r1 := r_repeats_at_least t m ht
  rw [rep2_eq t m hm] at r1
  have a1 := r_alike 6 _ (okS 4 hf)
  have a2 := r_alike 6 _ (okS 4 hr)
  have a3 := r_alike 6 _ (okG 2 (t := t) (m := m) hr hn)
  have inK : ∀ p ∈ reps m (sufs t), p ∈ keysT t m (nof t m) := fun p hp => (keys_reps hm).mem_iff.mp hp
  unfold s__law_repeats_asked f__law_repeats_asked
  refine run_go rfl ?_
  refine sts_nx [.val (.str t), .val (.int m), .val (gramD wL t m (nof t m)), .no, .no, .no] (by simp [r_law_grams t m ht hm hm2]) ?_
  refine sts_nx [.val (.str t), .val (.int m), .val (gramD wL t m (nof t m)), .val (.lst ((reps m (sufs t)).map D.str)), .no, .no] ?_ ?_
  · have e1 : ev (.keyl 2 4) [.val (.str t), .val (.int m), .val (gramD wL t m (nof t m)), .no, .no, .no] = pure (.lst ((keysT t m (nof t m)).map D.str)) := by
      rw [keyl_ev (ks := (keysT t m (nof t m)).map Ky.s) rfl (by rw [List.length_map]; omega), map_d]
    have e2 : bltD .sorted [.lst ((keysT t m (nof t m)).map D.str)] = pure (.lst ((reps m (sufs t)).map D.str)) := by
      rw [blt_srt (srt_strs _), sort_keys hm]
    simp [e1, e2]
  refine sts_nx [.val (.str t), .val (.int m), .val (gramD wL t m (nof t m)), .val (.lst ((reps m (sufs t)).map D.str)), .no, .val (.lst (((reps m (sufs t)).filter fun p => decide (1 < (pos t m (nof t m) p).length)).map D.str))] ?_ ?_
  · simp (disch := first | assumption | omega)
    rw [compL_fil (c := fun p => decide (1 < (pos t m (nof t m) p).length)) (r := D.str)]
    · simp
    · intro p hp
      have cc : ((1 : Int) < ((pos t m (nof t m) p).length : Nat)) ↔ 1 < (pos t m (nof t m) p).length := by omega
      unfold cmpF
      simp (disch := first | assumption | omega) [look_gram wL (inK p hp), wL, ite_pure, cc]
  refine sts_nx _ (by simp (disch := first | assumption | omega) [r1, a1]; rfl) ?_
  refine sts_nx _ (by simp (disch := first | assumption | omega) [r_unlike_parts t m ht hm hm2, a2]; rfl) ?_
  refine sts_rt (.bl true) ?_ rfl
  simp (disch := first | assumption | omega) [r_gram_places t m ht hm hm2]
  rw [compL_map (r := fun p : T => D.tup [.str p, .tup ((pos t m (nof t m) p).map fun k : Nat => D.int k)])]
  · simp [a3]
  · intro p hp
    unfold cmpF
    simp (disch := first | assumption | omega) [look_gram wL (inK p hp), wL]
end K89
set_option Elab.async false
set_option linter.all false
set_option maxRecDepth 100000
set_option maxHeartbeats 400000
/-! law k89: what is asked of the longest repeat -/
namespace K89
open L2 TI
theorem firstAt_get : ∀ (L : List T) (m : Nat), (∀ k : Nat, (adj L)[k]? ≠ some m) ∧ firstAt m L = [] ∨ ∃ k : Nat, (∀ j : Nat, j < k → (adj L)[j]? ≠ some m) ∧ (adj L)[k]? = some m ∧ ∃ a : T, L[k]? = some a ∧ firstAt m L = a.take m
  | [], m => .inl ⟨by simp [adj], rfl⟩
  | [_], m => .inl ⟨by simp [adj], rfl⟩
  | a :: b :: r, m => by
    by_cases c : lcp a b = m
    · refine .inr ⟨0, by simp, by simp [adj, c], a, rfl, ?_⟩
      unfold firstAt; rw [if_pos c]
    · have e : firstAt m (a :: b :: r) = firstAt m (b :: r) := by
        show (if lcp a b = m then a.take m else firstAt m (b :: r)) = _
        rw [if_neg c]
      rw [e]
      have g : ∀ k, (adj (a :: b :: r))[k + 1]? = (adj (b :: r))[k]? := fun k => by simp [adj]
      have g0 : (adj (a :: b :: r))[0]? = some (lcp a b) := by simp [adj]
      rcases firstAt_get (b :: r) m with ⟨h1, h2⟩ | ⟨k, h1, h2, x, h3, h4⟩
      · refine .inl ⟨fun k => ?_, h2⟩
        cases k with
        | zero => rw [g0]; simpa using c
        | succ k => rw [g]; exact h1 k
      · refine .inr ⟨k + 1, fun j hj => ?_, by rw [g]; exact h2, x, by simpa using h3, h4⟩
        cases j with
        | zero => rw [g0]; simpa using c
        | succ j => rw [g]; exact h1 j (by omega)
theorem r_longest_asked (t : List Nat) (ht : t.length ≤ 1000) : s__law_longest_asked [.str t, .lst ((adj (sufs t)).map fun k : Nat => D.int k), .lst ((sa t).map fun k : Nat => D.int k)] = pure (.bl true) := by
  have hL := lineV
  have hs := sa_len (t := t)
  have hadj : (adj (sufs t)).length = t.length - 1 := by rw [adj_len]; unfold sufs; rw [List.length_map, hs]
  have hM : mx (adj (sufs t)) ≤ 1000 := mx_le fun x hx => by
    have := adj_le (L := sufs t) (n := t.length) (fun a ha => by
      obtain ⟨k, hk, rfl⟩ := mem_sufs.mp ha
      simp) x hx
    omega
  have rb := r_longest_repeat t ht
  have rl := r_repeat_length t ht
  rw [best_length] at rl
  have a1 := r_alike 6 (.str (bestR t)) trivial
  have a2 := r_alike 6 (.int (mx (adj (sufs t)) : Nat)) trivial
  have a3 := r_alike 6 (.tup []) ⟨by simp, by simp⟩
  obtain ⟨m, hm⟩ : ∃ m, m = mx (adj (sufs t)) := ⟨_, rfl⟩
  have rr : 0 < m → s__law_repeats_asked [.str t, .int m] = pure (.bl true) := fun h => r_repeats_asked t m ht h (by omega)
  have rn := r_repeats_at_least t (m + 1) ht
  rw [hm, rep2_none, ← hm] at rn
  rw [← hm] at rl a2 hM
  have hbest := best_eq t
  rw [← hm] at hbest
  unfold s__law_longest_asked f__law_longest_asked
  refine run_go rfl ?_
  refine sts_nx [.val (.str t), .val (.lst ((adj (sufs t)).map fun k : Nat => D.int k)), .val (.lst ((sa t).map fun k : Nat => D.int k)), .val (.int 0), .no, .no, .no] (by simp) ?_
  refine sts_for (ds := (adj (sufs t)).map fun k : Nat => D.int k) _ (by simp) rfl (fun i ρ => ∃ x, ρ = [.val (.str t), .val (.lst ((adj (sufs t)).map fun k : Nat => D.int k)), .val (.lst ((sa t).map fun k : Nat => D.int k)), .val (.int ((((adj (sufs t)).take i).foldl max 0 : Nat) : Int)), x, .no, .no]) ⟨.no, rfl⟩ ?_ ?_
  · rintro i h ρ ⟨x, rfl⟩
    simp at h
    refine ⟨_, .inl ?_, .val (.int ((adj (sufs t))[i] : Nat)), rfl⟩
    rw [fold_take max 0 _ h]
    have e : ∀ a b : Nat, (if a < b then (b : Int) else (a : Int)) = ((max a b : Nat) : Int) := fun a b => by split <;> omega
    simp [e]
  rintro ρ' ⟨x, rfl⟩
  rw [List.length_map, List.take_length, show (adj (sufs t)).foldl max 0 = m from hm.symm]
  refine sts_nx [.val (.str t), .val (.lst ((adj (sufs t)).map fun k : Nat => D.int k)), .val (.lst ((sa t).map fun k : Nat => D.int k)), .val (.int m), x, .val (.str []), .no] (by simp [emp_str]) ?_
  refine sts_forx (ds := (List.range (t.length - 1)).map fun k : Nat => D.int k) _ (by simp [hadj]; rw [rng_nat (by omega)]) rfl
    (fun i ρ => ∃ y, ρ = [.val (.str t), .val (.lst ((adj (sufs t)).map fun k : Nat => D.int k)), .val (.lst ((sa t).map fun k : Nat => D.int k)), .val (.int m), x, .val (.str []), y] ∧ (0 < m → ∀ j, j < i → (adj (sufs t))[j]? ≠ some m))
    (fun u => ∃ y, u = .nx [.val (.str t), .val (.lst ((adj (sufs t)).map fun k : Nat => D.int k)), .val (.lst ((sa t).map fun k : Nat => D.int k)), .val (.int m), x, .val (.str (bestR t)), y]) ⟨.no, rfl, fun _ j h => by omega⟩ ?_ ?_
  · rintro i h ρ ⟨y, rfl, hno⟩
    simp at h
    have h1 : i < (adj (sufs t)).length := by omega
    have h2 : i < (sa t).length := by omega
    have s1 : atI ((adj (sufs t)).map fun k : Nat => D.int k) (i : Int) = some (.int ((adj (sufs t))[i] : Nat)) := by
      rw [atI_n (by simpa using h1)]; simp
    have s2 : atI ((sa t).map fun k : Nat => D.int k) (i : Int) = some (.int ((sa t)[i] : Nat)) := by
      rw [atI_n (by simpa using h2)]; simp
    by_cases c : (adj (sufs t))[i] = m
    · by_cases z : 0 < m
      · refine ⟨.bk [.val (.str t), .val (.lst ((adj (sufs t)).map fun k : Nat => D.int k)), .val (.lst ((sa t).map fun k : Nat => D.int k)), .val (.int m), x, .val (.str (bestR t)), .val (.int i)], ?_, _, rfl⟩
        have hz : bestR t = (t.drop (sa t)[i]).take m := by
          rw [hbest, if_pos z]
          rcases firstAt_get (sufs t) m with ⟨q, _⟩ | ⟨k, q1, q2, a, q3, q4⟩
          · exact absurd (by rw [List.getElem?_eq_getElem h1, c]) (q i)
          · have : k = i := by
              rcases Nat.lt_trichotomy k i with w | w | w
              · exact absurd q2 (hno z k w)
              · exact w
              · exact absurd (by rw [List.getElem?_eq_getElem h1, c]) (q1 i w)
            subst this
            rw [q4]
            obtain ⟨_, e, _⟩ := sufs_at q3
            rw [e]
        have z0 : decide ((0 : Int) < (m : Int)) = true := by simp; omega
        have z1 : (((adj (sufs t))[i] : Nat) : Int) = (m : Int) := by rw [c]
        have htl : t.length ≤ line := by omega
        rw [z1] at s1
        rw [hz]
        generalize (sa t)[i] = q at s2
        simp [s1, s2, z, cutL_part, htl]
      · refine ⟨.nx [.val (.str t), .val (.lst ((adj (sufs t)).map fun k : Nat => D.int k)), .val (.lst ((sa t).map fun k : Nat => D.int k)), .val (.int m), x, .val (.str []), .val (.int i)], ?_, _, rfl, fun h => absurd h z⟩
        have z0 : decide ((0 : Int) < (m : Int)) = false := by simp; omega
        have z1 : (((adj (sufs t))[i] : Nat) : Int) = (m : Int) := by rw [c]
        rw [z1] at s1
        simp [s1, z]
    · have c2 : ¬ (((adj (sufs t))[i] : Nat) : Int) = (m : Int) := by omega
      have c3 : ((((adj (sufs t))[i] : Nat) : Int) == (m : Int)) = false := by simpa using c2
      refine ⟨.nx [.val (.str t), .val (.lst ((adj (sufs t)).map fun k : Nat => D.int k)), .val (.lst ((sa t).map fun k : Nat => D.int k)), .val (.int m), x, .val (.str []), .val (.int i)], ?_, _, rfl, fun h j hj => ?_⟩
      · simp [s1, c3]
      · by_cases q : j = i
        · subst q
          rw [List.getElem?_eq_getElem h1]
          simpa using c
        · exact hno h j (by omega)
  intro u hu
  have fin : ∃ y, u = .nx [.val (.str t), .val (.lst ((adj (sufs t)).map fun k : Nat => D.int k)), .val (.lst ((sa t).map fun k : Nat => D.int k)), .val (.int m), x, .val (.str (bestR t)), y] := by
    rcases hu with h | ⟨ρ', rfl, y, rfl, hno⟩
    · exact h
    · refine ⟨y, ?_⟩
      have : bestR t = [] := by
        rw [hbest]
        split
        · rename_i z
          obtain ⟨k, hk⟩ := List.getElem?_of_mem (mx_mem (l := adj (sufs t)) (by omega))
          have hk1 := (List.getElem?_eq_some_iff.mp hk).1
          rw [← hm] at hk
          exact absurd hk (hno z k (by simp; omega))
        · rfl
      rw [this]
  obtain ⟨y, rfl⟩ := fin
  show (exSs _ _ >>= _) = _
  refine sts_nx _ (by simp (disch := first | assumption | omega) [rb, rl, a1, a2]; rfl) ?_
  refine sts_nx [.val (.str t), .val (.lst ((adj (sufs t)).map fun k : Nat => D.int k)), .val (.lst ((sa t).map fun k : Nat => D.int k)), .val (.int m), x, .val (.str (bestR t)), y] ?_ ?_
  · by_cases z : 0 < m
    · simp [z, rr z]
    · simp [z]
  refine sts_rt (.bl true) ?_ rfl
  simp at rn
  simp [rn, a3]
end K89
set_option Elab.async false
set_option linter.all false
set_option maxRecDepth 100000
set_option maxHeartbeats 4000000
/-! what runs with a well: a budget of draws, what holds of what is told -/
namespace TI
open L2
/-- m ends well from every state that has n draws left over what is wanted behind -/
def Ho {α : Type} (W : G → Nat → Prop) (n : Nat) (m : M α) (P : α → Prop) : Prop := ∀ g k, W g (k + n) → ∃ a g', m g = .ok a g' ∧ W g' k ∧ P a
section
variable {α β : Type} {W : G → Nat → Prop} {n n' : Nat} {m : M α} {P Q : α → Prop}
theorem Ho.pure {a : α} (h : P a) : Ho W 0 (Pure.pure a : M α) P := fun g k w => ⟨a, g, rfl, w, h⟩
theorem Ho.imp (h : Ho W n m Q) (k : ∀ a, Q a → P a) : Ho W n m P := fun g j w => by
  obtain ⟨a, g', e, w', q⟩ := h g j w
  exact ⟨a, g', e, w', k a q⟩
theorem Ho.more (mono : ∀ g i j, i ≤ j → W g j → W g i) (h : Ho W n m P) (le : n ≤ n') : Ho W n' m P := fun g k w => by
  obtain ⟨a, g', e, w', q⟩ := h g (k + (n' - n)) (by rw [show k + (n' - n) + n = k + n' by omega]; exact w)
  exact ⟨a, g', e, mono _ _ _ (by omega) w', q⟩
theorem Ho.bind {f : α → M β} {R : β → Prop} (h : Ho W n m Q) (k : ∀ a, Q a → Ho W n' (f a) R) : Ho W (n + n') (m >>= f) R := fun g j w => by
  obtain ⟨a, g', e, w', q⟩ := h g (j + n') (by rw [show j + n' + n = j + (n + n') by omega]; exact w)
  obtain ⟨b, g2, e2, w2, q2⟩ := k a q g' j w'
  refine ⟨b, g2, ?_, w2, q2⟩
  show M.bnd m f g = _
  unfold M.bnd
  rw [e]; exact e2
theorem Ho.map {f : α → β} {R : β → Prop} (h : Ho W n m Q) (k : ∀ a, Q a → R (f a)) : Ho W n (f <$> m) R := by
  have : f <$> m = m >>= fun a => Pure.pure (f a) := by simp
  rw [this]
  exact h.bind (n' := 0) fun a q => .pure (k a q)
theorem Ho.nox (h : Ho W n m P) : Ho W n (TI.nox m) P := fun g k w => by
  obtain ⟨a, g', e, w', q⟩ := h g k w
  exact ⟨a, g', by unfold TI.nox; rw [e], w', q⟩
theorem Ho.lif {f : α → M Out} {ρ : List Sl} {R : Out → Prop} (h : Ho W n m Q) (k : ∀ a, Q a → Ho W n' (f a) R) : Ho W (n + n') (TI.lif m ρ f) R := fun g j w => by
  obtain ⟨a, g', e, w', q⟩ := h g (j + n') (by rw [show j + n' + n = j + (n + n') by omega]; exact w)
  obtain ⟨b, g2, e2, w2, q2⟩ := k a q g' j w'
  refine ⟨b, g2, ?_, w2, q2⟩
  unfold TI.lif
  rw [e]; exact e2
theorem Ho.compL {γ : Type} {f : γ → M (Option β)} {R : β → Prop} {b : Nat} : ∀ {ds : List γ}, (∀ d ∈ ds, Ho W b (f d) fun o => ∃ x, o = some x ∧ R x) → Ho W (ds.length * b) (TI.compL f ds) fun l => l.length = ds.length ∧ ∀ x ∈ l, R x
  | [], _ => by
    unfold TI.compL
    rw [List.length_nil, Nat.zero_mul]
    exact .pure ⟨rfl, by simp⟩
  | d :: ds, h => by
    unfold TI.compL
    rw [List.length_cons, show (ds.length + 1) * b = b + (ds.length * b + 0) by rw [Nat.add_mul]; omega]
    refine (h d (by simp)).bind fun o ⟨x, e, hx⟩ => ?_
    subst e
    refine (Ho.compL fun d' hd => h d' (List.mem_cons_of_mem _ hd)).bind fun l ⟨h1, h2⟩ => .pure ⟨by simp [h1], fun y hy => ?_⟩
    rcases List.mem_cons.mp hy with rfl | hy
    · exact hx
    · exact h2 y hy
theorem Ho.forL (mono : ∀ g i j, i ≤ j → W g j → W g i) {b : D → List Sl → M Out} {c : Nat} (E : Out → Prop) : ∀ {ds : List D} (I : Nat → List Sl → Prop) {ρ : List Sl}, I 0 ρ →
    (∀ i (h : i < ds.length) ρ, I i ρ → Ho W c (b ds[i] ρ) fun u => match u with
      | .nx ρ' | .ct ρ' => I (i + 1) ρ'
      | .bk ρ' => E (.nx ρ')
      | u => E u) → Ho W (ds.length * c) (TI.forL b ds ρ) fun u => E u ∨ ∃ ρ', u = .nx ρ' ∧ I ds.length ρ'
  | [], I, ρ, h0, _ => by
    unfold TI.forL
    rw [List.length_nil, Nat.zero_mul]
    exact .pure (.inr ⟨ρ, rfl, h0⟩)
  | d :: ds, I, ρ, h0, step => by
    unfold TI.forL
    rw [List.length_cons, show (ds.length + 1) * c = c + ds.length * c by rw [Nat.add_mul]; omega]
    refine (step 0 (by simp) ρ h0).bind fun u hu => ?_
    have go : ∀ ρ', I 1 ρ' → Ho W (ds.length * c) (TI.forL b ds ρ') fun u => E u ∨ ∃ ρ2, u = .nx ρ2 ∧ I (ds.length + 1) ρ2 := fun ρ' h1 =>
      Ho.forL mono E (fun i => I (i + 1)) h1 fun i h ρ hi => step (i + 1) (by simpa using h) ρ hi
    cases u with
    | nx ρ' => exact go ρ' hu
    | ct ρ' => exact go ρ' hu
    | bk ρ' => exact (Ho.pure (P := fun u => E u ∨ ∃ ρ2, u = .nx ρ2 ∧ I (ds.length + 1) ρ2) (.inl hu)).more mono (Nat.zero_le _)
    | rt d => exact (Ho.pure (P := fun u => E u ∨ ∃ ρ2, u = .nx ρ2 ∧ I (ds.length + 1) ρ2) (.inl hu)).more mono (Nat.zero_le _)
    | ex e ρ' => exact (Ho.pure (P := fun u => E u ∨ ∃ ρ2, u = .nx ρ2 ∧ I (ds.length + 1) ρ2) (.inl hu)).more mono (Nat.zero_le _)
end
section
variable {α : Type} {W : G → Nat → Prop} {n n' : Nat} {s : St} {ss : Sts} {ρ : List Sl} {f : Out → M α} {R : α → Prop}
theorem ho_nx (ρ' : List Sl) (h : exS s ρ = pure (.nx ρ')) (k : Ho W n (exSs ss ρ' >>= f) R) : Ho W n (exSs (.cons s ss) ρ >>= f) R := by
  rw [exSs_nx h]; exact k
theorem ho_rt (d : D) (h : exS s ρ = pure (.rt d)) (k : Ho W n (f (.rt d)) R) : Ho W n (exSs (.cons s ss) ρ >>= f) R := by
  rw [exSs_rt h]; exact k
theorem ho_nil (k : Ho W n (f (.nx ρ)) R) : Ho W n (exSs .nil ρ >>= f) R := by
  rw [exSs_nil]; exact k
theorem ho_any (J : Out → Prop) (h : Ho W n (exS s ρ) J) (k : ∀ u, J u → Ho W n' ((match u with
    | .nx ρ' => exSs ss ρ'
    | o => pure o) >>= f) R) : Ho W (n + n') (exSs (.cons s ss) ρ >>= f) R := by
  rw [exSs_cons, bind_assoc]
  exact h.bind k
theorem ho_do (J : List Sl → Prop) (h : Ho W n (exS s ρ) fun u => ∃ ρ', u = .nx ρ' ∧ J ρ') (k : ∀ ρ', J ρ' → Ho W n' (exSs ss ρ' >>= f) R) : Ho W (n + n') (exSs (.cons s ss) ρ >>= f) R :=
  ho_any _ h fun u ⟨ρ', e, j⟩ => by subst e; exact k ρ' j
theorem ho_ret (J : D → Prop) (h : Ho W n (exS s ρ) fun u => ∃ d, u = .rt d ∧ J d) (k : ∀ d, J d → Ho W n' (f (.rt d)) R) : Ho W (n + n') (exSs (.cons s ss) ρ >>= f) R :=
  ho_any _ h fun u ⟨d, e, j⟩ => by subst e; rw [pure_bind]; exact k d j
theorem ho_ife {c : Ex} {a b : Sts} (J : Bool → Prop) (hc : Ho W n (do asB (← ev c ρ)) J)
    (kt : J true → Ho W n' (exSs a ρ >>= fun u => (match u with
      | .nx ρ' => exSs ss ρ'
      | o => pure o) >>= f) R)
    (kf : J false → Ho W n' (exSs b ρ >>= fun u => (match u with
      | .nx ρ' => exSs ss ρ'
      | o => pure o) >>= f) R) : Ho W (n + n') (exSs (.cons (.ife c a b) ss) ρ >>= f) R := by
  have key : Ho W (n + n') ((do asB (← ev c ρ) : M Bool) >>= fun k => (if k = true then exSs a ρ else exSs b ρ) >>= fun u => (match u with
      | .nx ρ' => exSs ss ρ'
      | o => pure o) >>= f) R := hc.bind fun k j => by
    cases k with
    | true => exact kt j
    | false => exact kf j
  intro g k w
  obtain ⟨x, g', e, w', r⟩ := key g k w
  refine ⟨x, g', ?_, w', r⟩
  obtain ⟨bb, g2, e2, _, _⟩ := hc g (k + n') (by rw [show k + n' + n = k + (n + n') by omega]; exact w)
  have e : M.bnd (do asB (← ev c ρ) : M Bool) (fun k => (if k = true then exSs a ρ else exSs b ρ) >>= fun u => (match u with
      | .nx ρ' => exSs ss ρ'
      | o => pure o) >>= f) g = .ok x g' := e
  unfold M.bnd at e
  rw [e2] at e
  have e : ((if bb = true then exSs a ρ else exSs b ρ) >>= fun u => (match u with
      | .nx ρ' => exSs ss ρ'
      | o => pure o) >>= f) g2 = .ok x g' := e
  rw [exSs_cons, exS_ife, bind_assoc]
  show M.bnd (lif _ ρ _) _ g = _
  unfold M.bnd lif
  rw [e2]
  exact e
theorem ho_ifT {c : Ex} {a b : Sts} (hc : ev c ρ = pure (.bl true)) (kt : Ho W n (exSs a ρ >>= fun u => (match u with
      | .nx ρ' => exSs ss ρ'
      | o => pure o) >>= f) R) : Ho W n (exSs (.cons (.ife c a b) ss) ρ >>= f) R := by
  rw [exSs_cons, exS_ife, hc, bind_assoc]
  exact kt
theorem ho_ifF {c : Ex} {a b : Sts} (hc : ev c ρ = pure (.bl false)) (kt : Ho W n (exSs b ρ >>= fun u => (match u with
      | .nx ρ' => exSs ss ρ'
      | o => pure o) >>= f) R) : Ho W n (exSs (.cons (.ife c a b) ss) ρ >>= f) R := by
  rw [exSs_cons, exS_ife, hc, bind_assoc]
  exact kt
theorem ho_set {e : Ex} {i : Nat} (J : D → Prop) (h : Ho W n (ev e ρ) J) (p : noOwn ρ e.vs = true) (k : ∀ d, J d → Ho W n' (exSs ss (ρ.set i (.val d)) >>= f) R) : Ho W (n + n') (exSs (.cons (.set 0 i e) ss) ρ >>= f) R := by
  refine ho_do (fun ρ' => ∃ d, J d ∧ ρ' = ρ.set i (.val d)) ?_ fun ρ' ⟨d, j, e⟩ => by subst e; exact k d j
  rw [exS_set0]
  exact h.lif (n' := 0) fun d j => .pure ⟨_, rfl, d, j, by rw [shr_no p]⟩
theorem ho_end {J : Out → Prop} (k : Ho W n (exSs ss ρ >>= pure) J) : Ho W n (exSs ss ρ) J := by
  rw [bind_pure] at k; exact k
theorem ho_for (mono : ∀ g i j, i ≤ j → W g j → W g i) {tg : Tg} {it : It} {a : Sts} {ds : List D} {N : Nat} (ρ1 : List Sl) (c : Nat) (hN : ds.length = N) (hi : evIt it ρ = pure ds) (hf : frz ρ it.lk = ρ1) (I : Nat → List Sl → Prop) (E : Out → Prop) (h0 : I 0 ρ1)
    (step : ∀ i (h : i < ds.length) ρ, I i ρ → Ho W c (forB tg a ds[i] ρ) fun u => match u with
      | .nx ρ' | .ct ρ' => I (i + 1) ρ'
      | .bk ρ' => E (.nx ρ')
      | u => E u) (fin : ∀ u, (E u ∨ ∃ ρ', u = .nx ρ' ∧ I N ρ') → Ho W n' ((match u with
        | .nx ρ' => exSs ss ρ'
        | o => pure o) >>= f) R) : Ho W (N * c + n') (exSs (.cons (.for_ tg it a) ss) ρ >>= f) R := by
  subst hN
  refine ho_any _ ?_ fin
  rw [exS_for, hi, lif_pure, hf]
  exact Ho.forL mono E I h0 step
theorem ho_forE (mono : ∀ g i j, i ≤ j → W g j → W g i) {tg : Tg} {it : It} {a : Sts} {n0 N : Nat} (ρ1 : List Sl) (c : Nat) (Jd : List D → Prop) (hi : Ho W n0 (evIt it ρ) fun ds => ds.length = N ∧ Jd ds) (hf : frz ρ it.lk = ρ1) (I : Nat → List Sl → Prop) (E : Out → Prop) (h0 : I 0 ρ1)
    (step : ∀ ds, Jd ds → ∀ i (h : i < ds.length) ρ, I i ρ → Ho W c (forB tg a ds[i] ρ) fun u => match u with
      | .nx ρ' | .ct ρ' => I (i + 1) ρ'
      | .bk ρ' => E (.nx ρ')
      | u => E u) (fin : ∀ u, (E u ∨ ∃ ρ', u = .nx ρ' ∧ I N ρ') → Ho W n' ((match u with
        | .nx ρ' => exSs ss ρ'
        | o => pure o) >>= f) R) : Ho W ((n0 + N * c) + n') (exSs (.cons (.for_ tg it a) ss) ρ >>= f) R := by
  refine ho_any _ ?_ fin
  rw [exS_for]
  refine hi.lif fun ds ⟨h1, h2⟩ => ?_
  subst h1
  rw [hf]
  exact Ho.forL mono E I h0 (step ds h2)
theorem ho_ifD {J : Out → Prop} {c : Ex} {a b : Sts} (k : Bool) (hc : ev c ρ = pure (.bl k)) (h : Ho W n (exSs (if k = true then a else b) ρ >>= pure) J) : Ho W n (exS (.ife c a b) ρ) J := by
  rw [exS_ife, hc]
  rw [bind_pure] at h
  cases k <;> exact h
theorem ho_run {fn : Fn} {ds : List D} {R : D → Prop} (h : ds.length = fn.n) (k : Ho W n (exSs fn.body (ds.map Sl.val ++ List.replicate (fn.m - fn.n) Sl.no) >>= fun u => match u with
    | .rt d => pure d
    | .nx _ => pure .non
    | .ex e _ => M.thr e
    | _ => M.stk) R) : Ho W n (TI.run fn ds) R := by
  rw [run_eq h]; exact k
end
end TI
set_option Elab.async false
set_option linter.all false
set_option maxRecDepth 100000
set_option maxHeartbeats 1000000
/-! law k89: what is drawn -/
namespace K89
open L2 TI
/-- a sound well, k draws left -/
def WG (g : G) (k : Nat) : Prop := ∃ (cells : List Int) (turn stir : Int), g = [cells, [turn], [stir]] ∧ cells ≠ [] ∧ 0 ≤ turn ∧ turn + k ≤ 2 ^ 60
theorem WG.mono (g : G) (i j : Nat) (h : i ≤ j) (w : WG g j) : WG g i := by
  obtain ⟨cells, turn, stir, e, h1, h2, h3⟩ := w
  exact ⟨cells, turn, stir, e, h1, h2, by omega⟩
theorem h_pick (many : Nat) (h0 : 0 < many) (h1 : many < 1073741824) : Ho WG 1 (s__law_pick [.wel, .int many]) fun d => ∃ r : Nat, d = .int r ∧ r < many := by
  intro g k ⟨cells, turn, stir, e, c, t0, t1⟩
  subst e
  have hc : 0 < (many : Int) ∧ (many : Int) < 1073741824 ∧ 0 ≤ turn ∧ turn < 2 ^ 64 ∧ cells ≠ [] := ⟨by omega, by omega, t0, by omega, c⟩
  have key : ∀ x : Int, ∃ r : Nat, D.int (x % many) = D.int r ∧ r < many := fun x => by
    have h2 := Int.emod_nonneg x (show (many : Int) ≠ 0 by omega)
    have h3 := Int.emod_lt_of_pos x (show (0 : Int) < many by omega)
    exact ⟨(x % many).toNat, by congr 1; omega, by omega⟩
  show ∃ a g', M.bnd (pickG many) (fun i => pure (D.int i)) [cells, [turn], [stir]] = .ok a g' ∧ _
  unfold M.bnd pickG
  simp only
  rw [if_pos hc]
  by_cases b : 10 ^ 18 ≤ cells.getD (turn % (cells.length : Int)).toNat 0 ∨ cells.getD (turn % (cells.length : Int)).toNat 0 ≤ -10 ^ 18
  · rw [if_pos b]
    exact ⟨_, _, rfl, ⟨_, _, _, rfl, by simpa using c, by omega, by omega⟩, key _⟩
  · rw [if_neg b]
    exact ⟨_, _, rfl, ⟨_, _, _, rfl, c, by omega, by omega⟩, key _⟩
theorem strs_of : ∀ l : List D, (∀ x ∈ l, ∃ c : Nat, x = .str [c]) → ∃ cs : List Nat, l = cs.map fun c => D.str [c]
  | [], _ => ⟨[], rfl⟩
  | d :: l, h => by
    obtain ⟨c, rfl⟩ := h d (by simp)
    obtain ⟨cs, rfl⟩ := strs_of l fun x hx => h x (List.mem_cons_of_mem _ hx)
    exact ⟨c :: cs, rfl⟩
theorem h_signs : Ho WG 10 (s__law_signs [.wel]) fun d => ∃ s : List Nat, d = .str s ∧ 2 ≤ s.length ∧ s.length ≤ 4 := by
  have hL := lineV
  unfold s__law_signs f__law_signs
  obtain ⟨sg, hsg⟩ : ∃ sg : List Nat, (PySem.Str.ofString " !\"#$&'()*+,-./0123456789:;<=>?@ABCDEFGHIJKLMNOPQRSTUVWXYZ[\\]^_`abcdefghijklmnopqrstuvwxyz{|}~").cps.toList = sg := ⟨_, rfl⟩
  have hlen : sg.length = 94 := by rw [← hsg]; decide +kernel
  refine Ho.more WG.mono (n := 1 + 3) ?_ (by decide)
  refine ho_run rfl ?_
  refine ho_nx [.val .wel, .val (.str sg), .no, .no] (by simp [hsg]) ?_
  refine ho_do (fun ρ' => ∃ r : Nat, r < 4 ∧ ρ' = [.val .wel, .val (.str sg), .val (.int r), .no]) ?_ ?_
  · have := h_pick 4 (by decide) (by decide)
    simp
    exact (Ho.lif this fun d ⟨r, e, h⟩ => .pure ⟨_, rfl, r, h, by subst e; rfl⟩)
  · rintro ρ' ⟨r, hr, rfl⟩
    by_cases z : r = 0
    · subst z
      refine ho_ifT (by simp) ?_
      refine ho_ret (n := 3) (n' := 0) (fun d => ∃ s : List Nat, d = .str s ∧ 2 ≤ s.length ∧ s.length ≤ 4) ?_ fun d j => .pure j
      have r3 : rngOf [.int 3] = pure ((List.range 3).map fun k : Nat => D.int k) := rng_nat (n := 3) (by omega)
      simp (disch := first | assumption | omega) [r3]
      refine Ho.lif (n := 3) (n' := 0) (Q := fun d => ∃ s : List Nat, d = .str s ∧ s.length = 3) (Ho.bind (n := 3) (n' := 0) (Q := fun l : List D => l.length = 3 ∧ ∀ x ∈ l, ∃ c : Nat, x = .str [c]) (Ho.compL (b := 1) (ds := (List.range 3).map fun k : Nat => D.int k) fun d hd => ?_) fun l ⟨h1, h2⟩ => ?_) fun d ⟨s, e, h⟩ => .pure ⟨d, rfl, s, e, by omega, by omega⟩
      · have := h_pick 94 (by decide) (by decide)
        unfold cmpF
        simp
        refine Ho.map (Q := fun d => ∃ c : Nat, d = .str [c]) (Ho.nox (Ho.bind (n' := 0) this fun d ⟨r, e, h⟩ => ?_)) fun d j => ⟨d, rfl, j⟩
        subst e
        rw [sub_strN (by omega) (by omega)]
        exact .pure ⟨_, rfl⟩
      · obtain ⟨cs, rfl⟩ := strs_of l h2
        rw [emp_str, met_join (f := fun c => [c]) (by rw [flat_one (fun c => c)]; simp at h1 ⊢; omega), flat_one (fun c => c)]
        exact .pure ⟨_, rfl, by simpa using h1⟩
    · refine ho_ifF ?_ ?_
      · have : ((r : Int) == 0) = false := by simp; omega
        simp [this]
      refine ho_nil ?_
      have k1 : (PySem.Str.ofString "ab").cps.toList = [97, 98] := by rfl
      have k2 : (PySem.Str.ofString "abc").cps.toList = [97, 98, 99] := by rfl
      have k3 : (PySem.Str.ofString "abcd").cps.toList = [97, 98, 99, 100] := by rfl
      obtain rfl | rfl | rfl : r = 1 ∨ r = 2 ∨ r = 3 := by omega
      · refine Ho.more WG.mono (n := 0) (ho_rt (.str [97, 98]) ?_ (.pure ⟨_, rfl, by simp, by simp⟩)) (by decide)
        simp (disch := first | assumption | omega) [k1, k2, k3]
        rfl
      · refine Ho.more WG.mono (n := 0) (ho_rt (.str [97, 98, 99]) ?_ (.pure ⟨_, rfl, by simp, by simp⟩)) (by decide)
        simp (disch := first | assumption | omega) [k1, k2, k3]
        rfl
      · refine Ho.more WG.mono (n := 0) (ho_rt (.str [97, 98, 99, 100]) ?_ (.pure ⟨_, rfl, by simp, by simp⟩)) (by decide)
        simp (disch := first | assumption | omega) [k1, k2, k3]
        rfl
/-- _law_text: no longer than wished, not empty if wished so -/
theorem h_text (s : List Nat) (size : Nat) (h2 : 2 ≤ s.length) (h4 : s.length ≤ 4) (hs : size ≤ 300) : Ho WG 1500 (s__law_text [.wel, .str s, .int size]) fun d => ∃ t : List Nat, d = .str t ∧ t.length ≤ size ∧ (0 < size → 0 < t.length) := by
  have hL := lineV
  unfold s__law_text f__law_text
  refine Ho.more WG.mono (n := size * 5 + 0) ?_ (by omega)
  refine ho_run rfl ?_
  refine ho_nx [.val .wel, .val (.str s), .val (.int size), .val (.str []), .no, .no, .no, .no] (by simp [emp_str]) ?_
  refine ho_for WG.mono (ds := (List.range size).map fun k : Nat => D.int k) [.val .wel, .val (.str s), .val (.int size), .val (.str []), .no, .no, .no, .no] 5 (by simp) (by simp; rw [rng_nat (by omega)]) rfl
    (fun i ρ => ∃ t a b c, ρ = [.val .wel, .val (.str s), .val (.int size), .val (.str t), a, b, c, .no] ∧ t.length ≤ size ∧ (0 < i → 0 < t.length))
    (fun u => ∃ t a b c, u = .nx [.val .wel, .val (.str s), .val (.int size), .val (.str t), a, b, c, .no] ∧ t.length ≤ size ∧ (0 < size → 0 < t.length))
    ⟨[], .no, .no, .no, rfl, by simp, by omega⟩ ?_ ?_
  · rintro i h ρ ⟨t, a, b, c, rfl, ht, hn⟩
    rw [forB_eq, List.getElem_map, List.getElem_range, bindT_nm, pure_bind]
    simp only [List.set_cons_succ, List.set_cons_zero]
    refine ho_end ?_
    by_cases big : size ≤ t.length
    · refine Ho.more WG.mono (n := 0) (ho_ifT ?_ ?_) (by decide)
      · simp (disch := first | assumption | omega)
        rw [decide_eq_true big]
      rw [exSs_cons, exS_brk]
      show Ho WG 0 (pure (Out.bk _)) _
      exact .pure ⟨t, _, _, _, rfl, ht, fun _ => by omega⟩
    · refine ho_ifF ?_ ?_
      · simp (disch := first | assumption | omega)
        rw [decide_eq_false big]
      refine ho_nil ?_
      show Ho WG 5 (exSs _ _ >>= _) _
      refine ho_ife (n := 1) (n' := 4) (fun k => k = false → 0 < t.length) ?_ (fun _ => ?_) (fun hne => ?_)
      · -- the test
        by_cases z : t.length = 0
        · have z2 : t = [] := List.length_eq_zero_iff.mp z
          subst z2
          simp
          exact (Ho.pure (by simp)).more WG.mono (by decide)
        · have := h_pick 3 (by decide) (by decide)
          have z3 : ((t.length : Int) == 0) = false := by simp; intro e; subst e; simp at z
          simp (disch := first | assumption | omega) [z3]
          refine Ho.bind (n := 1) (n' := 0) this fun d ⟨r, e, hr⟩ => ?_
          subst e
          simp
          exact .pure fun _ => by omega
      · -- one more sign
        have hp := h_pick s.length (by omega) (by omega)
        refine Ho.more WG.mono (n := 1 + 0) ?_ (by decide)
        refine ho_set (fun d => ∃ c : Nat, d = .str (t ++ [c])) ?_ (by rfl) ?_
        · simp (disch := first | assumption | omega)
          refine Ho.bind (n := 1) (n' := 0) hp fun d ⟨r, e, hr⟩ => ?_
          subst e
          rw [sub_strN hr (by omega)]
          simp (disch := first | assumption | omega)
          rw [bin_addS (by simp; omega)]
          exact .pure ⟨_, rfl⟩
        · rintro d ⟨c', rfl⟩
          refine ho_nil (ho_nil ?_)
          exact .pure ⟨t ++ [c'], _, _, _, rfl, by simp; omega, fun _ => by simp⟩
      · -- a part again
        have hne := hne rfl
        have hp := h_pick t.length hne (by omega)
        refine Ho.more WG.mono (n := 1 + (1 + (1 + 0))) ?_ (by decide)
        refine ho_set (fun d => ∃ r : Nat, d = .int r ∧ r < t.length) ?_ (by rfl) ?_
        · simp (disch := first | assumption | omega)
          exact hp
        rintro d ⟨r, rfl, hr⟩
        have h4' := h_pick 4 (by decide) (by decide)
        refine ho_set (fun d => ∃ p : List Nat, d = .str p ∧ p.length ≤ 1000) ?_ (by rfl) ?_
        · simp (disch := first | assumption | omega)
          refine Ho.bind (n := 1) (n' := 0) h4' fun d ⟨q, e, hq⟩ => ?_
          subst e
          simp (disch := first | assumption | omega)
          rw [show (r : Int) + 1 + q = ((r : Nat) : Int) + ((1 + q : Nat) : Int) by omega, cutL_part]
          exact .pure ⟨_, rfl, by simp; omega⟩
        rintro d ⟨p, rfl, hpl⟩
        have lastly : ∀ (p : List Nat), p.length ≤ 1000 → ∀ J, J = (fun u => match u with
            | Out.nx ρ' => ∃ t a b c, ρ' = [Sl.val D.wel, .val (.str s), .val (.int size), .val (.str t), a, b, c, .no] ∧ t.length ≤ size ∧ (0 < i + 1 → 0 < t.length)
            | .ct ρ' => ∃ t a b c, ρ' = [Sl.val D.wel, .val (.str s), .val (.int size), .val (.str t), a, b, c, .no] ∧ t.length ≤ size ∧ (0 < i + 1 → 0 < t.length)
            | .bk ρ' => ∃ t a b c, Out.nx ρ' = .nx [Sl.val D.wel, .val (.str s), .val (.int size), .val (.str t), a, b, c, .no] ∧ t.length ≤ size ∧ (0 < size → 0 < t.length)
            | u => ∃ t a b c, u = .nx [Sl.val D.wel, .val (.str s), .val (.int size), .val (.str t), a, b, c, .no] ∧ t.length ≤ size ∧ (0 < size → 0 < t.length)) →
            Ho WG 0 (exSs (.cons (.set 0 3 (.slc (.bin .Add (.var 3) (.var 6)) .no (.so (.var 2)))) .nil) [.val .wel, .val (.str s), .val (.int size), .val (.str t), .val (.int i), .val (.int r), .val (.str p), .no] >>= fun u => (match u with
              | .nx ρ' => exSs .nil ρ'
              | o => pure o) >>= pure) J := fun p hp J eJ => by
          subst eJ
          refine ho_nx [.val .wel, .val (.str s), .val (.int size), .val (.str ((t ++ p).take size)), .val (.int i), .val (.int r), .val (.str p), .no] ?_ ?_
          · simp (disch := first | assumption | omega)
            rw [slc_str (by simp; omega), cutL_to]
            simp
          · refine ho_nil (ho_nil ?_)
            exact .pure ⟨_, _, _, _, rfl, by rw [List.length_take]; omega, fun _ => by rw [List.length_take, List.length_append]; omega⟩
        refine ho_ife (fun _ => True) ?_ (fun _ => ?_) (fun _ => ?_)
        · simp
          refine Ho.bind (n := 1) (n' := 0) h4' fun d ⟨q, e, hq⟩ => ?_
          subst e
          simp
          exact .pure trivial
        · refine Ho.more WG.mono (n := 0 + 0) ?_ (by decide)
          refine ho_set (fun d => ∃ p : List Nat, d = .str p ∧ p.length ≤ 1000) ?_ (by rfl) ?_
          · have rp : rngOf [.int (p.length : Int)] = pure ((List.range p.length).map fun k : Nat => D.int k) := rng_nat (by omega)
            simp (disch := first | assumption | omega) [rp]
            rw [compL_map (r := fun k : Nat => D.str [p[p.length - 1 - k]?.getD 0])]
            · simp [emp_str]
              rw [met_join (f := fun k => [p[p.length - 1 - k]?.getD 0]) (by rw [flat_one (fun k => p[p.length - 1 - k]?.getD 0)]; simp; omega)]
              exact .pure ⟨_, rfl, by rw [flat_one (fun k => p[p.length - 1 - k]?.getD 0)]; simp; omega⟩
            · intro k hk
              have hk := List.mem_range.mp hk
              have e1 : subD (.str p) (.int ((p.length : Int) - 1 - k)) = pure (.str [p[p.length - 1 - k]?.getD 0]) := by
                rw [show (p.length : Int) - 1 - k = ((p.length - 1 - k : Nat) : Int) by omega, sub_strN (by omega) (by omega), List.getElem?_eq_getElem (by omega)]; rfl
              unfold cmpF
              simp (disch := first | assumption | omega) [e1]
          · rintro d ⟨p', rfl, hp'⟩
            exact ho_nil (lastly p' hp' _ rfl)
        · refine ho_nil ?_
          exact lastly p hpl _ rfl
  · rintro u hu
    have : ∃ t a b c, u = .nx [.val .wel, .val (.str s), .val (.int size), .val (.str t), a, b, c, .no] ∧ t.length ≤ size ∧ (0 < size → 0 < t.length) := by
      rcases hu with h | ⟨ρ', rfl, t, a, b, c, rfl, h1, h2⟩
      · exact h
      · exact ⟨t, a, b, c, rfl, h1, h2⟩
    obtain ⟨t, a, b, c, rfl, h1, h2⟩ := this
    show Ho WG 0 (exSs _ _ >>= _) _
    exact ho_rt (.str t) (by simp) (.pure ⟨t, rfl, h1, h2⟩)
end K89
set_option Elab.async false
set_option linter.all false
set_option maxRecDepth 100000
set_option maxHeartbeats 1000000
/-! law k89: a text with a period -/
namespace K89
open L2 TI
theorem h_periodic (t : List Nat) (ht : t.length ≤ 1000) : Ho WG 10 (s__law_periodic [.wel, .str t]) fun d => ∃ p : List Nat, d = .str p ∧ p.length ≤ 1000 := by
  have hL := lineV
  unfold s__law_periodic f__law_periodic
  have fin : ∀ d : D, (∃ p : List Nat, d = .str p ∧ p.length ≤ 1000) → (∃ p : List Nat, d = .str p ∧ p.length ≤ 1000) := fun d h => h
  by_cases z : t.length = 0
  · refine Ho.more WG.mono (n := 0) ?_ (by decide)
    refine ho_run rfl ?_
    refine ho_ifT (by simp (disch := first | assumption | omega) [z]) ?_
    exact ho_rt (.str t) (by simp) (.pure ⟨t, rfl, ht⟩)
  · refine Ho.more WG.mono (n := 1 + (1 + 0)) ?_ (by decide)
    refine ho_run rfl ?_
    have z2 : ((t.length : Int) == 0) = false := by simp; intro e; subst e; simp at z
    refine ho_ifF (by simp (disch := first | assumption | omega) [z2]) ?_
    refine ho_nil ?_
    show Ho WG _ (exSs _ _ >>= _) _
    have h4 := h_pick 4 (by decide) (by decide)
    have h2 := h_pick 2 (by decide) (by decide)
    refine ho_set (fun d => ∃ r : Nat, d = .int (r : Nat) ∧ r ≤ 4) ?_ (by rfl) ?_
    · simp
      refine Ho.bind (n := 1) (n' := 0) h4 fun d ⟨q, e, hq⟩ => ?_
      subst e
      simp
      exact .pure ⟨q + 1, by congr 1; omega, by omega⟩
    rintro d ⟨r, rfl, hr⟩
    have e1 : ev (.met .join (.con (.str (PySem.Str.ofString ""))) (.cons (.comp (.nm 4) (.rng (.cons (.var 2) .nil)) .no (.slc (.var 1) .no (.so (.con (.int 6)))) [(PySem.Str.ofString "k", 4)]) .nil)) [.val .wel, .val (.str t), .val (.int r), .no, .no] = pure (.str (List.replicate r (t.take 6)).flatten) := by
      simp (disch := first | assumption | omega)
      rw [rng_nat (by omega)]
      simp (disch := first | assumption | omega)
      rw [compL_map (r := fun _ : Nat => D.str (t.take 6))]
      · have hl : ((List.range r).map fun _ : Nat => t.take 6).flatten.length ≤ 24 := by
          rw [List.map_const', List.length_range]
          simp
          calc r * min 6 t.length ≤ 4 * 6 := Nat.mul_le_mul hr (Nat.min_le_left _ _)
            _ ≤ 24 := by decide
        simp [emp_str]
        rw [met_join (f := fun _ => t.take 6) (by omega)]
        rw [List.map_const', List.length_range]
      · intro k hk
        unfold cmpF
        have : cutL t none (some 6) = t.take 6 := cutL_to t 6
        simp (disch := first | assumption | omega) [this]
    have hlen : (List.replicate r (t.take 6)).flatten.length ≤ 24 := by
      simp
      calc r * min 6 t.length ≤ 4 * 6 := Nat.mul_le_mul hr (Nat.min_le_left _ _)
        _ ≤ 24 := by decide
    refine ho_nx [.val .wel, .val (.str t), .val (.int r), .val (.str (List.replicate r (t.take 6)).flatten), .no] ?_ ?_
    · rw [exS_set0]
      show lif (ev _ [.val .wel, .val (.str t), .val (.int r), .no, .no]) _ _ = _
      rw [e1]
      simp
    generalize (List.replicate r (t.take 6)).flatten = p at hlen
    refine ho_ife (fun _ => True) ?_ (fun _ => ?_) (fun _ => ?_)
    · simp
      refine Ho.bind (n := 1) (n' := 0) h2 fun d ⟨q, e, hq⟩ => ?_
      subst e
      simp
      exact .pure trivial
    · refine ho_nx [.val .wel, .val (.str t), .val (.int r), .val (.str (p ++ t.take 1)), .no] ?_ ?_
      · have : cutL t none (some 1) = t.take 1 := cutL_to t 1
        have hb : binD .Add (.str p) (.str (t.take 1)) = pure (.str (p ++ t.take 1)) := bin_addS (by rw [List.length_take]; omega)
        simp (disch := first | assumption | omega) [this, hb]
      · refine ho_nil ?_
        exact ho_rt (.str (p ++ t.take 1)) (by simp) (.pure ⟨_, rfl, by rw [List.length_append, List.length_take]; omega⟩)
    · refine ho_nil ?_
      exact ho_rt (.str p) (by simp) (.pure ⟨_, rfl, by omega⟩)
end K89
set_option Elab.async false
set_option linter.all false
set_option maxRecDepth 100000
set_option maxHeartbeats 1000000
/-! law k89: the law -/
namespace K89
open L2 TI
def PD (ds : List D) : Prop := ds.length ≤ 20 ∧ ∀ d ∈ ds, ∃ p : List Nat, d = .str p ∧ 0 < p.length ∧ p.length ≤ 1000
/-- a sign of the given ones -/
theorem sub_sg {s : List Nat} {k : Nat} (h : k < s.length) (h4 : s.length ≤ 4) : subD (.str s) (.int k) = pure (.str [s[k]]) := sub_strN h (by have := lineV; omega)
theorem h_law : Ho WG 5000 (exSs b_law ([.no, .val .wel] ++ List.replicate 12 .no)) fun u => u = .rt (.bl true) := by
  have hL := lineV
  unfold b_law
  refine ho_end ?_
  refine Ho.more WG.mono (n := 10 + (1 + (1 + (2 + (1500 + (10 + (1501 + (2 + (20 * 0 + ((1 + 4 * 0) + 0)))))))))) ?_ (by decide)
  refine ho_do (fun ρ' => ∃ s : List Nat, ρ' = [.no, .val .wel, .val (.str s), .no, .no, .no, .no, .no, .no, .no, .no, .no, .no, .no] ∧ 2 ≤ s.length ∧ s.length ≤ 4) ?_ ?_
  · simp
    exact h_signs.lif (n' := 0) fun d ⟨s, e, h1, h2⟩ => by subst e; exact .pure ⟨_, rfl, s, rfl, h1, h2⟩
  rintro ρ' ⟨s, rfl, hs2, hs4⟩
  refine ho_do (fun ρ' => ∃ z : Nat, z ≤ 300 ∧ ρ' = [.no, .val .wel, .val (.str s), .val (.int z), .no, .no, .no, .no, .no, .no, .no, .no, .no, .no]) ?_ ?_
  · simp
    exact (h_pick 25 (by decide) (by decide)).lif (n' := 0) fun d ⟨r, e, h⟩ => by subst e; exact .pure ⟨_, rfl, r, by omega, rfl⟩
  rintro ρ' ⟨z, hz, rfl⟩
  refine ho_do (fun ρ' => ∃ w : Nat, ρ' = [.no, .val .wel, .val (.str s), .val (.int z), .val (.int w), .no, .no, .no, .no, .no, .no, .no, .no, .no]) ?_ ?_
  · simp
    exact (h_pick 13 (by decide) (by decide)).lif (n' := 0) fun d ⟨r, e, h⟩ => by subst e; exact .pure ⟨_, rfl, r, rfl⟩
  rintro ρ' ⟨w, rfl⟩
  refine ho_do (fun ρ' => ∃ z : Nat, z ≤ 300 ∧ ρ' = [.no, .val .wel, .val (.str s), .val (.int z), .val (.int w), .no, .no, .no, .no, .no, .no, .no, .no, .no]) ?_ ?_
  · refine ho_ifD (decide (w = 8)) ?_ ?_
    · have e8 : ((w : Int) == 8) = decide (w = 8) := by
        by_cases h : w = 8
        · subst h; rfl
        · rw [decide_eq_false h]; simp; omega
      simp [e8]
    · by_cases h : w = 8
      · rw [if_pos (decide_eq_true h)]
        refine Ho.more WG.mono (n := 1 + (1 + 0)) ?_ (by decide)
        refine ho_set (fun d => ∃ z : Nat, d = .int z ∧ z ≤ 300) ?_ (by rfl) ?_
        · simp
          refine Ho.bind (n := 1) (n' := 0) (h_pick 60 (by decide) (by decide)) fun d ⟨r, e, h⟩ => ?_
          subst e
          simp
          exact .pure ⟨r + 90, by congr 1; omega, by omega⟩
        rintro d ⟨z2, rfl, hz2⟩
        refine ho_ife (fun _ => True) ?_ (fun _ => ?_) (fun _ => ?_)
        · simp
          refine Ho.bind (n := 1) (n' := 0) (h_pick 3 (by decide) (by decide)) fun d ⟨r, e, h⟩ => ?_
          subst e
          simp
          exact .pure trivial
        · refine ho_nx [.no, .val .wel, .val (.str s), .val (.int 300), .val (.int w), .no, .no, .no, .no, .no, .no, .no, .no, .no] (by simp) ?_
          exact ho_nil (ho_nil (.pure ⟨_, rfl, 300, by omega, rfl⟩))
        · exact ho_nil (ho_nil (.pure ⟨_, rfl, z2, by omega, rfl⟩))
      · rw [if_neg (by simpa using h)]
        refine Ho.more WG.mono (n := 0) ?_ (by decide)
        exact ho_nil (.pure ⟨_, rfl, z, hz, rfl⟩)
  rintro ρ' ⟨z, hz, rfl⟩
  -- text
  refine ho_do (fun ρ' => ∃ t : List Nat, t.length ≤ 300 ∧ ρ' = [.no, .val .wel, .val (.str s), .val (.int z), .val (.int w), .val (.str t), .no, .no, .no, .no, .no, .no, .no, .no]) ?_ ?_
  · simp
    exact (h_text s z hs2 hs4 hz).lif (n' := 0) fun d ⟨t, e, h, _⟩ => by subst e; exact .pure ⟨_, rfl, t, by omega, rfl⟩
  rintro ρ' ⟨t, ht, rfl⟩
  have ht1 : t.length ≤ 1000 := by omega
  refine ho_do (fun ρ' => ∃ o : List Nat, o.length ≤ 1000 ∧ ρ' = [.no, .val .wel, .val (.str s), .val (.int z), .val (.int w), .val (.str t), .val (.str o), .no, .no, .no, .no, .no, .no, .no]) ?_ ?_
  · simp
    exact (h_periodic t ht1).lif (n' := 0) fun d ⟨o, e, h⟩ => by subst e; exact .pure ⟨_, rfl, o, h, rfl⟩
  rintro ρ' ⟨o, ho, rfl⟩
  refine ho_nx _ (by simp [r_order_asked t ht1, r_order_asked o ho]; rfl) ?_
  refine ho_nx [.no, .val .wel, .val (.str s), .val (.int z), .val (.int w), .val (.str t), .val (.str o), .val (.lst ((sa t).map fun k : Nat => D.int k)), .no, .no, .no, .no, .no, .no] (by simp [r_law_order t ht1]) ?_
  -- parts
  have g0 := sub_sg (k := 0) (by omega : 0 < s.length) hs4
  have g1 := sub_sg (k := 1) (by omega : 1 < s.length) hs4
  refine ho_do (fun ρ' => ∃ ds, PD ds ∧ ds.length ≤ 5 ∧ ρ' = [.no, .val .wel, .val (.str s), .val (.int z), .val (.int w), .val (.str t), .val (.str o), .val (.lst ((sa t).map fun k : Nat => D.int k)), .val (.lst ds), .no, .no, .no, .no, .no]) ?_ ?_
  · have c1 : (PySem.Str.ofString "~").cps.toList = [126] := by rfl
    have c2 : (PySem.Str.ofString " ").cps.toList = [32] := by rfl
    simp at g0 g1
    have hb : ∀ a b : Nat, binD .Add (.str [a]) (.str [b]) = pure (.str [a, b]) := fun a b => bin_addS (by simp; omega)
    simp (disch := first | assumption | omega) [g0, g1, c1, c2, hb]
    refine Ho.lif (n := 1501) (n' := 0) (Q := fun d => ∃ ds, d = .lst ds ∧ PD ds ∧ ds.length ≤ 5) (Ho.bind (n := 1) (n' := 1500) (h_pick 4 (by decide) (by decide)) fun d ⟨r, e, hr⟩ => ?_) fun d ⟨ds, e, h1, h2⟩ => ?_
    · subst e
      have := h_text s (1 + r) hs2 hs4 (by omega)
      rw [show ((1 + r : Nat) : Int) = 1 + (r : Int) by omega] at this
      rw [bin_addI]
      simp
      refine Ho.map this fun d ⟨p, e, h1, h2⟩ => ?_
      subst e
      refine ⟨_, rfl, ⟨by simp, fun d hd => ?_⟩, by simp⟩
      simp at hd
      rcases hd with rfl | rfl | rfl | rfl | rfl
      · exact ⟨_, rfl, by simp, by simp⟩
      · exact ⟨_, rfl, by simp, by simp⟩
      · exact ⟨_, rfl, by simp, by simp⟩
      · exact ⟨_, rfl, by simp, by simp⟩
      · exact ⟨_, rfl, h2 (by omega), by omega⟩
    · subst e
      exact .pure ⟨_, rfl, ds, h1, h2, rfl⟩
  rintro ρ' ⟨ds, hd, hd5, rfl⟩
  refine ho_do (fun ρ' => ∃ ds a b, PD ds ∧ ρ' = [.no, .val .wel, .val (.str s), .val (.int z), .val (.int w), .val (.str t), .val (.str o), .val (.lst ((sa t).map fun k : Nat => D.int k)), .val (.lst ds), a, b, .no, .no, .no]) ?_ ?_
  · refine ho_ifD (decide (0 < t.length)) ?_ ?_
    · simp (disch := first | assumption | omega)
    · by_cases h : 0 < t.length
      · rw [if_pos (decide_eq_true h)]
        refine Ho.more WG.mono (n := 1 + (1 + 0)) ?_ (by decide)
        refine ho_set (fun d => ∃ r : Nat, d = .int r ∧ r < t.length) ?_ (by rfl) ?_
        · simp (disch := first | assumption | omega)
          exact h_pick t.length h (by omega)
        rintro d ⟨r, rfl, hr⟩
        refine ho_set (fun d => ∃ p : List Nat, d = .str p ∧ 0 < p.length ∧ p.length ≤ 300) ?_ (by rfl) ?_
        · simp (disch := first | assumption | omega)
          refine Ho.bind (n := 1) (n' := 0) (h_pick 6 (by decide) (by decide)) fun d ⟨q, e, hq⟩ => ?_
          subst e
          simp (disch := first | assumption | omega)
          rw [show (r : Int) + 1 + q = ((r : Nat) : Int) + ((1 + q : Nat) : Int) by omega, cutL_part]
          exact .pure ⟨_, rfl, by simp; omega, by simp; omega⟩
        rintro d ⟨p, rfl, hp0, hp⟩
        obtain ⟨j, hj, ej⟩ : ∃ j, ∃ h : j < s.length, ((2 : Int) * (if (2 : Int) < (s.length : Nat) then 1 else 0)) = (j : Int) := by
          by_cases c : (2 : Int) < (s.length : Nat)
          · exact ⟨2, by omega, by rw [if_pos c]; rfl⟩
          · exact ⟨0, by omega, by rw [if_neg c]; rfl⟩
        have gj := sub_sg hj hs4
        have hm : ∀ x : Int, binD .Mult (.int 2) (.int x) = pure (.int (2 * x)) := fun x => bin_mulI (by unfold cmulB; simp)
        have b1 : binD .Add (.str p) (.str [s[1]]) = pure (.str (p ++ [s[1]])) := bin_addS (by simp; omega)
        have b2 : binD .Add (.str t) (.str [s[0]]) = pure (.str (t ++ [s[0]])) := bin_addS (by simp; omega)
        have b3 : binD .Add (.str [s[j]]) (.str p) = pure (.str ([s[j]] ++ p)) := bin_addS (by simp; omega)
        have b4 : ∀ x1 x2 x3 x4 x5 x6 : D, binD .Add (.lst ds) (.lst [x1, x2, x3, x4, x5, x6]) = pure (.lst (ds ++ [x1, x2, x3, x4, x5, x6])) := fun _ _ _ _ _ _ => bin_addL (by simp; omega)
        have sl : slcD (.str (t ++ [s[0]])) none (some 300) = pure (.str ((t ++ [s[0]]).take 300)) := by
          rw [slc_str (by simp; omega), show (300 : Int) = ((300 : Nat) : Int) from rfl, cutL_to]
        refine ho_nx [.no, .val .wel, .val (.str s), .val (.int z), .val (.int w), .val (.str t), .val (.str o), .val (.lst ((sa t).map fun k : Nat => D.int k)), .val (.lst (ds ++ [.str p, .str (p ++ [s[1]]), .str (t.drop r), .str t, .str ((t ++ [s[0]]).take 300), .str ([s[j]] ++ p)])), .val (.int r), .val (.str p), .no, .no, .no] ?_ ?_
        · simp at g0 g1
          simp (disch := first | assumption | omega) [g0, g1, b1, b2, sl, cutL_from, hm, ej, gj, b3]
          simp [b4]
        refine ho_nil (.pure ⟨_, rfl, _, _, _, ?_, rfl⟩)
        refine ⟨by simp; omega, fun d hd' => ?_⟩
        rcases List.mem_append.mp hd' with hd' | hd'
        · exact hd.2 d hd'
        · simp at hd'
          rcases hd' with rfl | rfl | rfl | rfl | rfl | rfl
          · exact ⟨_, rfl, hp0, by omega⟩
          · exact ⟨_, rfl, by simp, by simp; omega⟩
          · exact ⟨_, rfl, by simp; omega, by simp; omega⟩
          · exact ⟨_, rfl, h, by omega⟩
          · exact ⟨_, rfl, by simp; omega, by simp; omega⟩
          · exact ⟨_, rfl, by simp, by simp; omega⟩
      · rw [if_neg (by simpa using h)]
        refine Ho.more WG.mono (n := 0) ?_ (by decide)
        exact ho_nil (.pure ⟨_, rfl, ds, _, _, hd, rfl⟩)
  rintro ρ' ⟨ds, a, b, hd, rfl⟩
  refine Ho.more WG.mono (n := ds.length * 0 + ((1 + 4 * 0) + 0)) ?_ (by omega)
  refine ho_for WG.mono (ds := ds) [.no, .val .wel, .val (.str s), .val (.int z), .val (.int w), .val (.str t), .val (.str o), .val (.lst ((sa t).map fun k : Nat => D.int k)), .val (.lst ds), a, b, .no, .no, .no] 0 rfl (by simp) (by simp)
    (fun i ρ => ∃ b, ρ = [.no, .val .wel, .val (.str s), .val (.int z), .val (.int w), .val (.str t), .val (.str o), .val (.lst ((sa t).map fun k : Nat => D.int k)), .val (.lst ds), a, b, .no, .no, .no]) (fun _ => False) ⟨b, rfl⟩ ?_ ?_
  · rintro i h ρ ⟨b, rfl⟩
    obtain ⟨p, e, hp0, hp⟩ := hd.2 _ (List.getElem_mem h)
    rw [e]
    have := r_part_asked t p ht1 hp hp0
    have e2 : forB (.nm 10) (.cons (.ife (.nt (.call (PySem.Str.ofString "_law_part_asked") s__law_part_asked (.cons (.var 5) (.cons (.var 7) (.cons (.var 10) .nil))))) (.cons (.ret (.con (.bool false))) .nil) .nil) .nil) (.str p) [.no, .val .wel, .val (.str s), .val (.int z), .val (.int w), .val (.str t), .val (.str o), .val (.lst ((sa t).map fun k : Nat => D.int k)), .val (.lst ds), a, b, .no, .no, .no]
      = pure (.nx [.no, .val .wel, .val (.str s), .val (.int z), .val (.int w), .val (.str t), .val (.str o), .val (.lst ((sa t).map fun k : Nat => D.int k)), .val (.lst ds), a, .val (.str p), .no, .no, .no]) := by
      simp [this]
    exact e2 ▸ Ho.pure ⟨_, rfl⟩
  rintro u (h | ⟨ρ', rfl, b, rfl⟩)
  · exact h.elim
  show Ho WG _ (exSs _ _ >>= _) _
  refine ho_forE WG.mono [.no, .val .wel, .val (.str s), .val (.int z), .val (.int w), .val (.str t), .val (.str o), .val (.lst ((sa t).map fun k : Nat => D.int k)), .val (.lst ds), a, b, .no, .no, .no] 0 (fun ds => ∀ d ∈ ds, ∃ m : Nat, d = .int m ∧ 0 < m ∧ m ≤ 2000) (n0 := 1) (N := 4) ?_ ?_
    (fun i ρ => ∃ c, ρ = [.no, .val .wel, .val (.str s), .val (.int z), .val (.int w), .val (.str t), .val (.str o), .val (.lst ((sa t).map fun k : Nat => D.int k)), .val (.lst ds), a, b, c, .no, .no]) (fun _ => False) ⟨.no, rfl⟩ ?_ ?_
  · simp (disch := first | assumption | omega)
    refine Ho.bind (n := 1) (n' := 0) (h_pick 6 (by decide) (by decide)) fun d ⟨q, e, hq⟩ => ?_
    subst e
    simp (disch := first | assumption | omega)
    refine .pure ⟨rfl, ?_⟩
    simp
    exact ⟨⟨1, by simp, by omega, by omega⟩, ⟨2, by simp, by omega, by omega⟩, ⟨q + 1, by omega, by omega, by omega⟩, ⟨t.length + 1, by omega, by omega, by omega⟩⟩
  · simp
  · rintro xs hx i h ρ ⟨c, rfl⟩
    obtain ⟨m, e, hm0, hm⟩ := hx _ (List.getElem_mem h)
    rw [e]
    have := r_repeats_asked t m ht1 hm0 hm
    have e2 : forB (.nm 11) (.cons (.ife (.nt (.call (PySem.Str.ofString "_law_repeats_asked") s__law_repeats_asked (.cons (.var 5) (.cons (.var 11) .nil)))) (.cons (.ret (.con (.bool false))) .nil) .nil) .nil) (.int m) [.no, .val .wel, .val (.str s), .val (.int z), .val (.int w), .val (.str t), .val (.str o), .val (.lst ((sa t).map fun k : Nat => D.int k)), .val (.lst ds), a, b, c, .no, .no]
      = pure (.nx [.no, .val .wel, .val (.str s), .val (.int z), .val (.int w), .val (.str t), .val (.str o), .val (.lst ((sa t).map fun k : Nat => D.int k)), .val (.lst ds), a, b, .val (.int m), .no, .no]) := by
      simp [this]
    exact e2 ▸ Ho.pure ⟨_, rfl⟩
  rintro u (h | ⟨ρ', rfl, c, rfl⟩)
  · exact h.elim
  show Ho WG _ (exSs _ _ >>= _) _
  by_cases big : 60 < t.length
  · refine ho_ifT ?_ ?_
    · simp (disch := first | assumption | omega)
      rw [decide_eq_true (show (60 : Int) < (t.length : Nat) by omega)]
    · exact ho_rt (.bl true) (by simp) (.pure rfl)
  · refine ho_ifF ?_ ?_
    · simp (disch := first | assumption | omega)
      rw [decide_eq_false (show ¬ (60 : Int) < (t.length : Nat) by omega)]
    refine ho_nil ?_
    show Ho WG _ (exSs _ _ >>= _) _
    refine ho_nx [.no, .val .wel, .val (.str s), .val (.int z), .val (.int w), .val (.str t), .val (.str o), .val (.lst ((sa t).map fun k : Nat => D.int k)), .val (.lst ds), a, b, c, .val (.lst ((adj (sufs t)).map fun k : Nat => D.int k)), .no] ?_ ?_
    · simp [sa_len]
      rw [rng_int (by omega) (by omega), show ((t.length : Int) - 1).toNat = t.length - 1 by omega]
      simp (disch := first | assumption | omega)
      rw [compL_map (r := fun k : Nat => D.int (lcp (t.drop ((sa t).getD k 0)) (t.drop ((sa t).getD (k + 1) 0)) : Nat)), shared_map]
      · simp
      · intro k hk
        obtain ⟨v, e1, w', e2, e3⟩ := ev_shared t ht1 k (List.mem_range.mp hk)
        unfold cmpF
        simp (disch := first | assumption | omega) [e1, e2, e3]
    · exact ho_rt (.bl true) (by simp [r_longest_asked t ht1]) (.pure rfl)
theorem law_true : lawTrue := fun cells stir ne => by
  obtain ⟨u, g', e, _, rfl⟩ := h_law [cells, [0], [stir]] 0 ⟨cells, 0, stir, rfl, ne, by omega, by omega⟩
  exact ⟨g', e⟩
end K89
set_option Elab.async false
set_option linter.all false
set_option maxRecDepth 100000
set_option maxHeartbeats 4000000
namespace K89
open PySem PySem.Spec PyProof.Rows L2 TI
theorem cx_false {P : Program} {w : World} {H : Hp} {s s' : Shared} {e : Value} (h : L2.CX P w [] H s (fun _ _ _ => False) e s') : False := by
  obtain ⟨_, _, _, _, _, _, _, _, _, _, _, _, h⟩ := h
  exact h
theorem all_mk (L : lawTrue) {l : PySem.W.OpenLaw} {w : World} {K : PySem.W.Frag} {h : Heap} {mg : Str → Option Value} {fa : Addr} (X : K.In h) (G : h.Ns mainGlobals mg) (hfa : mg "law" = some (.ref fa))
    {f0 : Addr} {od0 an0 : Option Addr} {sl0 : Array (Option Value)} {oc0 kV0 dc0 pm0 cd0 ct0 : Value}
    {f1 : Addr} {od1 an1 : Option Addr} {sl1 : Array (Option Value)} {oc1 kV1 dc1 pm1 cd1 ct1 : Value}
    {f2 : Addr} {od2 an2 : Option Addr} {sl2 : Array (Option Value)} {oc2 kV2 dc2 pm2 cd2 ct2 : Value}
    {f3 : Addr} {od3 an3 : Option Addr} {sl3 : Array (Option Value)} {oc3 kV3 dc3 pm3 cd3 ct3 : Value}
    {f4 : Addr} {od4 an4 : Option Addr} {sl4 : Array (Option Value)} {oc4 kV4 dc4 pm4 cd4 ct4 : Value}
    {f5 : Addr} {od5 an5 : Option Addr} {sl5 : Array (Option Value)} {oc5 kV5 dc5 pm5 cd5 ct5 : Value}
    {f6 : Addr} {od6 an6 : Option Addr} {sl6 : Array (Option Value)} {oc6 kV6 dc6 pm6 cd6 ct6 : Value}
    {f7 : Addr} {od7 an7 : Option Addr} {sl7 : Array (Option Value)} {oc7 kV7 dc7 pm7 cd7 ct7 : Value}
    {f8 : Addr} {od8 an8 : Option Addr} {sl8 : Array (Option Value)} {oc8 kV8 dc8 pm8 cd8 ct8 : Value}
    {f9 : Addr} {od9 an9 : Option Addr} {sl9 : Array (Option Value)} {oc9 kV9 dc9 pm9 cd9 ct9 : Value}
    {f10 : Addr} {od10 an10 : Option Addr} {sl10 : Array (Option Value)} {oc10 kV10 dc10 pm10 cd10 ct10 : Value}
    {f11 : Addr} {od11 an11 : Option Addr} {sl11 : Array (Option Value)} {oc11 kV11 dc11 pm11 cd11 ct11 : Value}
    {f12 : Addr} {od12 an12 : Option Addr} {sl12 : Array (Option Value)} {oc12 kV12 dc12 pm12 cd12 ct12 : Value}
    {f13 : Addr} {od13 an13 : Option Addr} {sl13 : Array (Option Value)} {oc13 kV13 dc13 pm13 cd13 ct13 : Value}
    {f14 : Addr} {od14 an14 : Option Addr} {sl14 : Array (Option Value)} {oc14 kV14 dc14 pm14 cd14 ct14 : Value}
    {f15 : Addr} {od15 an15 : Option Addr} {sl15 : Array (Option Value)} {oc15 kV15 dc15 pm15 cd15 ct15 : Value}
    {f16 : Addr} {od16 an16 : Option Addr} {sl16 : Array (Option Value)} {oc16 kV16 dc16 pm16 cd16 ct16 : Value}
    {f17 : Addr} {od17 an17 : Option Addr} {sl17 : Array (Option Value)} {oc17 kV17 dc17 pm17 cd17 ct17 : Value}
    {f18 : Addr} {od18 an18 : Option Addr} {sl18 : Array (Option Value)} {oc18 kV18 dc18 pm18 cd18 ct18 : Value}
    {f19 : Addr} {od19 an19 : Option Addr} {sl19 : Array (Option Value)} {oc19 kV19 dc19 pm19 cd19 ct19 : Value}
    {f20 : Addr} {od20 an20 : Option Addr} {sl20 : Array (Option Value)} {oc20 kV20 dc20 pm20 cd20 ct20 : Value}
    {f21 : Addr} {od21 an21 : Option Addr} {sl21 : Array (Option Value)} {oc21 kV21 dc21 pm21 cd21 ct21 : Value}
    {f22 : Addr} {od22 an22 : Option Addr} {sl22 : Array (Option Value)} {oc22 kV22 dc22 pm22 cd22 ct22 : Value}
    {f23 : Addr} {od23 an23 : Option Addr} {sl23 : Array (Option Value)} {oc23 kV23 dc23 pm23 cd23 ct23 : Value}
    {f24 : Addr} {od24 an24 : Option Addr} {sl24 : Array (Option Value)} {oc24 kV24 dc24 pm24 cd24 ct24 : Value}
    {f25 : Addr} {od25 an25 : Option Addr} {sl25 : Array (Option Value)} {oc25 kV25 dc25 pm25 cd25 ct25 : Value}
    {f26 : Addr} {od26 an26 : Option Addr} {sl26 : Array (Option Value)} {oc26 kV26 dc26 pm26 cd26 ct26 : Value}
    {f27 : Addr} {od27 an27 : Option Addr} {sl27 : Array (Option Value)} {oc27 kV27 dc27 pm27 cd27 ct27 : Value}
    {f28 : Addr} {od28 an28 : Option Addr} {sl28 : Array (Option Value)} {oc28 kV28 dc28 pm28 cd28 ct28 : Value}
    {f29 : Addr} {od29 an29 : Option Addr} {sl29 : Array (Option Value)} {oc29 kV29 dc29 pm29 cd29 ct29 : Value}
    {f30 : Addr} {od30 an30 : Option Addr} {sl30 : Array (Option Value)} {oc30 kV30 dc30 pm30 cd30 ct30 : Value}
    {f31 : Addr} {od31 an31 : Option Addr} {sl31 : Array (Option Value)} {oc31 kV31 dc31 pm31 cd31 ct31 : Value}
    {f32 : Addr} {od32 an32 : Option Addr} {sl32 : Array (Option Value)} {oc32 kV32 dc32 pm32 cd32 ct32 : Value}
    (a0 : PySem.W.nsIn K mainGlobals "shared_begin" = some (some (.ref f0))) (l0 : K.lookup f0 = some ⟨oc0, od0, .func (PySem.W.fnOf "shared_begin" "shared_begin" (defArgs (topS 1)) (defBody (topS 1)) (defScope (topS 1)) .none kV0 dc0 pm0 an0 cd0 ct0), sl0⟩) (c0 : PySem.W.codeIn K cd0 "shared_begin" = true) (k0 : PySem.W.keepIn K (.ref f0) = true)
    (a1 : PySem.W.nsIn K mainGlobals "end_order" = some (some (.ref f1))) (l1 : K.lookup f1 = some ⟨oc1, od1, .func (PySem.W.fnOf "end_order" "end_order" (defArgs (topS 3)) (defBody (topS 3)) (defScope (topS 3)) .none kV1 dc1 pm1 an1 cd1 ct1), sl1⟩) (c1 : PySem.W.codeIn K cd1 "end_order" = true) (k1 : PySem.W.keepIn K (.ref f1) = true)
    (a2 : PySem.W.nsIn K mainGlobals "order_ranks" = some (some (.ref f2))) (l2 : K.lookup f2 = some ⟨oc2, od2, .func (PySem.W.fnOf "order_ranks" "order_ranks" (defArgs (topS 4)) (defBody (topS 4)) (defScope (topS 4)) .none kV2 dc2 pm2 an2 cd2 ct2), sl2⟩) (c2 : PySem.W.codeIn K cd2 "order_ranks" = true) (k2 : PySem.W.keepIn K (.ref f2) = true)
    (a3 : PySem.W.nsIn K mainGlobals "shared_lengths" = some (some (.ref f3))) (l3 : K.lookup f3 = some ⟨oc3, od3, .func (PySem.W.fnOf "shared_lengths" "shared_lengths" (defArgs (topS 5)) (defBody (topS 5)) (defScope (topS 5)) .none kV3 dc3 pm3 an3 cd3 ct3), sl3⟩) (c3 : PySem.W.codeIn K cd3 "shared_lengths" = true) (k3 : PySem.W.keepIn K (.ref f3) = true)
    (a4 : PySem.W.nsIn K mainGlobals "ends_with_part" = some (some (.ref f4))) (l4 : K.lookup f4 = some ⟨oc4, od4, .func (PySem.W.fnOf "ends_with_part" "ends_with_part" (defArgs (topS 6)) (defBody (topS 6)) (defScope (topS 6)) .none kV4 dc4 pm4 an4 cd4 ct4), sl4⟩) (c4 : PySem.W.codeIn K cd4 "ends_with_part" = true) (k4 : PySem.W.keepIn K (.ref f4) = true)
    (a5 : PySem.W.nsIn K mainGlobals "part_number_by_order" = some (some (.ref f5))) (l5 : K.lookup f5 = some ⟨oc5, od5, .func (PySem.W.fnOf "part_number_by_order" "part_number_by_order" (defArgs (topS 7)) (defBody (topS 7)) (defScope (topS 7)) .none kV5 dc5 pm5 an5 cd5 ct5), sl5⟩) (c5 : PySem.W.codeIn K cd5 "part_number_by_order" = true) (k5 : PySem.W.keepIn K (.ref f5) = true)
    (a6 : PySem.W.nsIn K mainGlobals "repeats_at_least" = some (some (.ref f6))) (l6 : K.lookup f6 = some ⟨oc6, od6, .func (PySem.W.fnOf "repeats_at_least" "repeats_at_least" (defArgs (topS 8)) (defBody (topS 8)) (defScope (topS 8)) .none kV6 dc6 pm6 an6 cd6 ct6), sl6⟩) (c6 : PySem.W.codeIn K cd6 "repeats_at_least" = true) (k6 : PySem.W.keepIn K (.ref f6) = true)
    (a7 : PySem.W.nsIn K mainGlobals "turned_columns" = some (some (.ref f7))) (l7 : K.lookup f7 = some ⟨oc7, od7, .func (PySem.W.fnOf "turned_columns" "turned_columns" (defArgs (topS 9)) (defBody (topS 9)) (defScope (topS 9)) .none kV7 dc7 pm7 an7 cd7 ct7), sl7⟩) (c7 : PySem.W.codeIn K cd7 "turned_columns" = true) (k7 : PySem.W.keepIn K (.ref f7) = true)
    (a8 : PySem.W.nsIn K mainGlobals "text_of_columns" = some (some (.ref f8))) (l8 : K.lookup f8 = some ⟨oc8, od8, .func (PySem.W.fnOf "text_of_columns" "text_of_columns" (defArgs (topS 10)) (defBody (topS 10)) (defScope (topS 10)) .none kV8 dc8 pm8 an8 cd8 ct8), sl8⟩) (c8 : PySem.W.codeIn K cd8 "text_of_columns" = true) (k8 : PySem.W.keepIn K (.ref f8) = true)
    (a9 : PySem.W.nsIn K mainGlobals "places_of" = some (some (.ref f9))) (l9 : K.lookup f9 = some ⟨oc9, od9, .func (PySem.W.fnOf "places_of" "places_of" (defArgs (topS 12)) (defBody (topS 12)) (defScope (topS 12)) .none kV9 dc9 pm9 an9 cd9 ct9), sl9⟩) (c9 : PySem.W.codeIn K cd9 "places_of" = true) (k9 : PySem.W.keepIn K (.ref f9) = true)
    (a10 : PySem.W.nsIn K mainGlobals "place_count" = some (some (.ref f10))) (l10 : K.lookup f10 = some ⟨oc10, od10, .func (PySem.W.fnOf "place_count" "place_count" (defArgs (topS 13)) (defBody (topS 13)) (defScope (topS 13)) .none kV10 dc10 pm10 an10 cd10 ct10), sl10⟩) (c10 : PySem.W.codeIn K cd10 "place_count" = true) (k10 : PySem.W.keepIn K (.ref f10) = true)
    (a11 : PySem.W.nsIn K mainGlobals "_shared_lengths" = some (some (.ref f11))) (l11 : K.lookup f11 = some ⟨oc11, od11, .func (PySem.W.fnOf "_shared_lengths" "_shared_lengths" (defArgs (topS 15)) (defBody (topS 15)) (defScope (topS 15)) .none kV11 dc11 pm11 an11 cd11 ct11), sl11⟩) (c11 : PySem.W.codeIn K cd11 "_shared_lengths" = true) (k11 : PySem.W.keepIn K (.ref f11) = true)
    (a12 : PySem.W.nsIn K mainGlobals "longest_repeat" = some (some (.ref f12))) (l12 : K.lookup f12 = some ⟨oc12, od12, .func (PySem.W.fnOf "longest_repeat" "longest_repeat" (defArgs (topS 16)) (defBody (topS 16)) (defScope (topS 16)) .none kV12 dc12 pm12 an12 cd12 ct12), sl12⟩) (c12 : PySem.W.codeIn K cd12 "longest_repeat" = true) (k12 : PySem.W.keepIn K (.ref f12) = true)
    (a13 : PySem.W.nsIn K mainGlobals "repeat_length" = some (some (.ref f13))) (l13 : K.lookup f13 = some ⟨oc13, od13, .func (PySem.W.fnOf "repeat_length" "repeat_length" (defArgs (topS 17)) (defBody (topS 17)) (defScope (topS 17)) .none kV13 dc13 pm13 an13 cd13 ct13), sl13⟩) (c13 : PySem.W.codeIn K cd13 "repeat_length" = true) (k13 : PySem.W.keepIn K (.ref f13) = true)
    (a14 : PySem.W.nsIn K mainGlobals "unlike_parts" = some (some (.ref f14))) (l14 : K.lookup f14 = some ⟨oc14, od14, .func (PySem.W.fnOf "unlike_parts" "unlike_parts" (defArgs (topS 18)) (defBody (topS 18)) (defScope (topS 18)) .none kV14 dc14 pm14 an14 cd14 ct14), sl14⟩) (c14 : PySem.W.codeIn K cd14 "unlike_parts" = true) (k14 : PySem.W.keepIn K (.ref f14) = true)
    (a15 : PySem.W.nsIn K mainGlobals "part_number" = some (some (.ref f15))) (l15 : K.lookup f15 = some ⟨oc15, od15, .func (PySem.W.fnOf "part_number" "part_number" (defArgs (topS 19)) (defBody (topS 19)) (defScope (topS 19)) .none kV15 dc15 pm15 an15 cd15 ct15), sl15⟩) (c15 : PySem.W.codeIn K cd15 "part_number" = true) (k15 : PySem.W.keepIn K (.ref f15) = true)
    (a16 : PySem.W.nsIn K mainGlobals "gram_places" = some (some (.ref f16))) (l16 : K.lookup f16 = some ⟨oc16, od16, .func (PySem.W.fnOf "gram_places" "gram_places" (defArgs (topS 21)) (defBody (topS 21)) (defScope (topS 21)) .none kV16 dc16 pm16 an16 cd16 ct16), sl16⟩) (c16 : PySem.W.codeIn K cd16 "gram_places" = true) (k16 : PySem.W.keepIn K (.ref f16) = true)
    (a17 : PySem.W.nsIn K mainGlobals "_law_well" = some (some (.ref f17))) (l17 : K.lookup f17 = some ⟨oc17, od17, .func (PySem.W.fnOf "_law_well" "_law_well" (defArgs (topS 23)) (defBody (topS 23)) (defScope (topS 23)) .none kV17 dc17 pm17 an17 cd17 ct17), sl17⟩) (c17 : PySem.W.codeIn K cd17 "_law_well" = true) (k17 : PySem.W.keepIn K (.ref f17) = true)
    (a18 : PySem.W.nsIn K mainGlobals "_law_pick" = some (some (.ref f18))) (l18 : K.lookup f18 = some ⟨oc18, od18, .func (PySem.W.fnOf "_law_pick" "_law_pick" (defArgs (topS 24)) (defBody (topS 24)) (defScope (topS 24)) .none kV18 dc18 pm18 an18 cd18 ct18), sl18⟩) (c18 : PySem.W.codeIn K cd18 "_law_pick" = true) (k18 : PySem.W.keepIn K (.ref f18) = true)
    (a19 : PySem.W.nsIn K mainGlobals "_law_alike" = some (some (.ref f19))) (l19 : K.lookup f19 = some ⟨oc19, od19, .func (PySem.W.fnOf "_law_alike" "_law_alike" (defArgs (topS 25)) (defBody (topS 25)) (defScope (topS 25)) .none kV19 dc19 pm19 an19 cd19 ct19), sl19⟩) (c19 : PySem.W.codeIn K cd19 "_law_alike" = true) (k19 : PySem.W.keepIn K (.ref f19) = true)
    (a20 : PySem.W.nsIn K mainGlobals "_law_signs" = some (some (.ref f20))) (l20 : K.lookup f20 = some ⟨oc20, od20, .func (PySem.W.fnOf "_law_signs" "_law_signs" (defArgs (topS 26)) (defBody (topS 26)) (defScope (topS 26)) .none kV20 dc20 pm20 an20 cd20 ct20), sl20⟩) (c20 : PySem.W.codeIn K cd20 "_law_signs" = true) (k20 : PySem.W.keepIn K (.ref f20) = true)
    (a21 : PySem.W.nsIn K mainGlobals "_law_text" = some (some (.ref f21))) (l21 : K.lookup f21 = some ⟨oc21, od21, .func (PySem.W.fnOf "_law_text" "_law_text" (defArgs (topS 27)) (defBody (topS 27)) (defScope (topS 27)) .none kV21 dc21 pm21 an21 cd21 ct21), sl21⟩) (c21 : PySem.W.codeIn K cd21 "_law_text" = true) (k21 : PySem.W.keepIn K (.ref f21) = true)
    (a22 : PySem.W.nsIn K mainGlobals "_law_shared" = some (some (.ref f22))) (l22 : K.lookup f22 = some ⟨oc22, od22, .func (PySem.W.fnOf "_law_shared" "_law_shared" (defArgs (topS 28)) (defBody (topS 28)) (defScope (topS 28)) .none kV22 dc22 pm22 an22 cd22 ct22), sl22⟩) (c22 : PySem.W.codeIn K cd22 "_law_shared" = true) (k22 : PySem.W.keepIn K (.ref f22) = true)
    (a23 : PySem.W.nsIn K mainGlobals "_law_order" = some (some (.ref f23))) (l23 : K.lookup f23 = some ⟨oc23, od23, .func (PySem.W.fnOf "_law_order" "_law_order" (defArgs (topS 29)) (defBody (topS 29)) (defScope (topS 29)) .none kV23 dc23 pm23 an23 cd23 ct23), sl23⟩) (c23 : PySem.W.codeIn K cd23 "_law_order" = true) (k23 : PySem.W.keepIn K (.ref f23) = true)
    (a24 : PySem.W.nsIn K mainGlobals "_law_grams" = some (some (.ref f24))) (l24 : K.lookup f24 = some ⟨oc24, od24, .func (PySem.W.fnOf "_law_grams" "_law_grams" (defArgs (topS 30)) (defBody (topS 30)) (defScope (topS 30)) .none kV24 dc24 pm24 an24 cd24 ct24), sl24⟩) (c24 : PySem.W.codeIn K cd24 "_law_grams" = true) (k24 : PySem.W.keepIn K (.ref f24) = true)
    (a25 : PySem.W.nsIn K mainGlobals "_law_starts" = some (some (.ref f25))) (l25 : K.lookup f25 = some ⟨oc25, od25, .func (PySem.W.fnOf "_law_starts" "_law_starts" (defArgs (topS 31)) (defBody (topS 31)) (defScope (topS 31)) .none kV25 dc25 pm25 an25 cd25 ct25), sl25⟩) (c25 : PySem.W.codeIn K cd25 "_law_starts" = true) (k25 : PySem.W.keepIn K (.ref f25) = true)
    (a26 : PySem.W.nsIn K mainGlobals "_law_turns" = some (some (.ref f26))) (l26 : K.lookup f26 = some ⟨oc26, od26, .func (PySem.W.fnOf "_law_turns" "_law_turns" (defArgs (topS 32)) (defBody (topS 32)) (defScope (topS 32)) .none kV26 dc26 pm26 an26 cd26 ct26), sl26⟩) (c26 : PySem.W.codeIn K cd26 "_law_turns" = true) (k26 : PySem.W.keepIn K (.ref f26) = true)
    (a27 : PySem.W.nsIn K mainGlobals "_law_order_asked" = some (some (.ref f27))) (l27 : K.lookup f27 = some ⟨oc27, od27, .func (PySem.W.fnOf "_law_order_asked" "_law_order_asked" (defArgs (topS 33)) (defBody (topS 33)) (defScope (topS 33)) .none kV27 dc27 pm27 an27 cd27 ct27), sl27⟩) (c27 : PySem.W.codeIn K cd27 "_law_order_asked" = true) (k27 : PySem.W.keepIn K (.ref f27) = true)
    (a28 : PySem.W.nsIn K mainGlobals "_law_part_asked" = some (some (.ref f28))) (l28 : K.lookup f28 = some ⟨oc28, od28, .func (PySem.W.fnOf "_law_part_asked" "_law_part_asked" (defArgs (topS 34)) (defBody (topS 34)) (defScope (topS 34)) .none kV28 dc28 pm28 an28 cd28 ct28), sl28⟩) (c28 : PySem.W.codeIn K cd28 "_law_part_asked" = true) (k28 : PySem.W.keepIn K (.ref f28) = true)
    (a29 : PySem.W.nsIn K mainGlobals "_law_repeats_asked" = some (some (.ref f29))) (l29 : K.lookup f29 = some ⟨oc29, od29, .func (PySem.W.fnOf "_law_repeats_asked" "_law_repeats_asked" (defArgs (topS 35)) (defBody (topS 35)) (defScope (topS 35)) .none kV29 dc29 pm29 an29 cd29 ct29), sl29⟩) (c29 : PySem.W.codeIn K cd29 "_law_repeats_asked" = true) (k29 : PySem.W.keepIn K (.ref f29) = true)
    (a30 : PySem.W.nsIn K mainGlobals "_law_longest_asked" = some (some (.ref f30))) (l30 : K.lookup f30 = some ⟨oc30, od30, .func (PySem.W.fnOf "_law_longest_asked" "_law_longest_asked" (defArgs (topS 36)) (defBody (topS 36)) (defScope (topS 36)) .none kV30 dc30 pm30 an30 cd30 ct30), sl30⟩) (c30 : PySem.W.codeIn K cd30 "_law_longest_asked" = true) (k30 : PySem.W.keepIn K (.ref f30) = true)
    (a31 : PySem.W.nsIn K mainGlobals "_law_periodic" = some (some (.ref f31))) (l31 : K.lookup f31 = some ⟨oc31, od31, .func (PySem.W.fnOf "_law_periodic" "_law_periodic" (defArgs (topS 37)) (defBody (topS 37)) (defScope (topS 37)) .none kV31 dc31 pm31 an31 cd31 ct31), sl31⟩) (c31 : PySem.W.codeIn K cd31 "_law_periodic" = true) (k31 : PySem.W.keepIn K (.ref f31) = true)
    (a32 : PySem.W.nsIn K mainGlobals "law" = some (some (.ref f32))) (l32 : K.lookup f32 = some ⟨oc32, od32, .func (PySem.W.fnOf "law" "law" (defArgs (topS 38)) (defBody (topS 38)) (defScope (topS 38)) .none kV32 dc32 pm32 an32 cd32 ct32), sl32⟩) (c32 : PySem.W.codeIn K cd32 "law" = true) (k32 : PySem.W.keepIn K (.ref f32) = true)
    (z0 : PySem.W.nsIn K mainGlobals "len" = some none)
    (z1 : PySem.W.nsIn K mainGlobals "sum" = some none)
    (z2 : PySem.W.nsIn K mainGlobals "max" = some none)
    (z3 : PySem.W.nsIn K mainGlobals "min" = some none)
    (z4 : PySem.W.nsIn K mainGlobals "abs" = some none)
    (z5 : PySem.W.nsIn K mainGlobals "int" = some none)
    (z6 : PySem.W.nsIn K mainGlobals "tuple" = some none)
    (z7 : PySem.W.nsIn K mainGlobals "list" = some none)
    (z8 : PySem.W.nsIn K mainGlobals "any" = some none)
    (z9 : PySem.W.nsIn K mainGlobals "all" = some none)
    (z10 : PySem.W.nsIn K mainGlobals "ord" = some none)
    (z11 : PySem.W.nsIn K mainGlobals "sorted" = some none)
    (z12 : PySem.W.nsIn K mainGlobals "bool" = some none)
    (z13 : PySem.W.nsIn K mainGlobals "str" = some none)
    (z14 : PySem.W.nsIn K mainGlobals "isinstance" = some none)
    (z15 : PySem.W.nsIn K mainGlobals "range" = some none)
    (z16 : PySem.W.nsIn K mainGlobals "enumerate" = some none)
    (z17 : PySem.W.nsIn K mainGlobals "zip" = some none)
    (z18 : PySem.W.nsIn K mainGlobals "reversed" = some none)
    : ∃ fd : FuncData, (∀ (s : Shared) (v : Value), BindsTo s fd ⟨[v], []⟩ [("script", v)]) ∧ ∀ base : Heap, K.In base → base.Ns mainGlobals mg → FnOk l.prog w K mg base (L2.CX l.prog w) 10 fa fd ["script"] (spLaw K) := by
  have e := hfa.symm.trans (PySem.W.mg_of X G a32)
  cases e
  have T : Txt K mg := {
    t_shared_begin := fnAt_mk X G (fun _ _ _ _ _ _ us hl => match us, hl with | [_, _], _ => rfl) a0 l0 c0 k0
    t_end_order := fnAt_mk X G (fun _ _ _ _ _ _ us hl => match us, hl with | [_], _ => rfl) a1 l1 c1 k1
    t_order_ranks := fnAt_mk X G (fun _ _ _ _ _ _ us hl => match us, hl with | [_], _ => rfl) a2 l2 c2 k2
    t_shared_lengths := fnAt_mk X G (fun _ _ _ _ _ _ us hl => match us, hl with | [_], _ => rfl) a3 l3 c3 k3
    t_ends_with_part := fnAt_mk X G (fun _ _ _ _ _ _ us hl => match us, hl with | [_, _], _ => rfl) a4 l4 c4 k4
    t_part_number_by_order := fnAt_mk X G (fun _ _ _ _ _ _ us hl => match us, hl with | [_], _ => rfl) a5 l5 c5 k5
    t_repeats_at_least := fnAt_mk X G (fun _ _ _ _ _ _ us hl => match us, hl with | [_, _], _ => rfl) a6 l6 c6 k6
    t_turned_columns := fnAt_mk X G (fun _ _ _ _ _ _ us hl => match us, hl with | [_], _ => rfl) a7 l7 c7 k7
    t_text_of_columns := fnAt_mk X G (fun _ _ _ _ _ _ us hl => match us, hl with | [_, _], _ => rfl) a8 l8 c8 k8
    t_places_of := fnAt_mk X G (fun _ _ _ _ _ _ us hl => match us, hl with | [_, _], _ => rfl) a9 l9 c9 k9
    t_place_count := fnAt_mk X G (fun _ _ _ _ _ _ us hl => match us, hl with | [_, _], _ => rfl) a10 l10 c10 k10
    t__shared_lengths := fnAt_mk X G (fun _ _ _ _ _ _ us hl => match us, hl with | [_, _], _ => rfl) a11 l11 c11 k11
    t_longest_repeat := fnAt_mk X G (fun _ _ _ _ _ _ us hl => match us, hl with | [_], _ => rfl) a12 l12 c12 k12
    t_repeat_length := fnAt_mk X G (fun _ _ _ _ _ _ us hl => match us, hl with | [_], _ => rfl) a13 l13 c13 k13
    t_unlike_parts := fnAt_mk X G (fun _ _ _ _ _ _ us hl => match us, hl with | [_, _], _ => rfl) a14 l14 c14 k14
    t_part_number := fnAt_mk X G (fun _ _ _ _ _ _ us hl => match us, hl with | [_], _ => rfl) a15 l15 c15 k15
    t_gram_places := fnAt_mk X G (fun _ _ _ _ _ _ us hl => match us, hl with | [_, _], _ => rfl) a16 l16 c16 k16
    t__law_well := fnAt_mk X G (fun _ _ _ _ _ _ us hl => match us, hl with | [_], _ => rfl) a17 l17 c17 k17
    t__law_pick := fnAt_mk X G (fun _ _ _ _ _ _ us hl => match us, hl with | [_, _], _ => rfl) a18 l18 c18 k18
    t__law_alike := fnAt_mk X G (fun _ _ _ _ _ _ us hl => match us, hl with | [_, _], _ => rfl) a19 l19 c19 k19
    t__law_signs := fnAt_mk X G (fun _ _ _ _ _ _ us hl => match us, hl with | [_], _ => rfl) a20 l20 c20 k20
    t__law_text := fnAt_mk X G (fun _ _ _ _ _ _ us hl => match us, hl with | [_, _, _], _ => rfl) a21 l21 c21 k21
    t__law_shared := fnAt_mk X G (fun _ _ _ _ _ _ us hl => match us, hl with | [_, _], _ => rfl) a22 l22 c22 k22
    t__law_order := fnAt_mk X G (fun _ _ _ _ _ _ us hl => match us, hl with | [_], _ => rfl) a23 l23 c23 k23
    t__law_grams := fnAt_mk X G (fun _ _ _ _ _ _ us hl => match us, hl with | [_, _], _ => rfl) a24 l24 c24 k24
    t__law_starts := fnAt_mk X G (fun _ _ _ _ _ _ us hl => match us, hl with | [_, _], _ => rfl) a25 l25 c25 k25
    t__law_turns := fnAt_mk X G (fun _ _ _ _ _ _ us hl => match us, hl with | [_], _ => rfl) a26 l26 c26 k26
    t__law_order_asked := fnAt_mk X G (fun _ _ _ _ _ _ us hl => match us, hl with | [_], _ => rfl) a27 l27 c27 k27
    t__law_part_asked := fnAt_mk X G (fun _ _ _ _ _ _ us hl => match us, hl with | [_, _, _], _ => rfl) a28 l28 c28 k28
    t__law_repeats_asked := fnAt_mk X G (fun _ _ _ _ _ _ us hl => match us, hl with | [_, _], _ => rfl) a29 l29 c29 k29
    t__law_longest_asked := fnAt_mk X G (fun _ _ _ _ _ _ us hl => match us, hl with | [_, _, _], _ => rfl) a30 l30 c30 k30
    t__law_periodic := fnAt_mk X G (fun _ _ _ _ _ _ us hl => match us, hl with | [_, _], _ => rfl) a31 l31 c31 k31
    z := fun x hx => by
      rcases List.mem_cons.mp hx with rfl | hx
      · exact PySem.W.mg_none_of X G z0
      rcases List.mem_cons.mp hx with rfl | hx
      · exact PySem.W.mg_none_of X G z1
      rcases List.mem_cons.mp hx with rfl | hx
      · exact PySem.W.mg_none_of X G z2
      rcases List.mem_cons.mp hx with rfl | hx
      · exact PySem.W.mg_none_of X G z3
      rcases List.mem_cons.mp hx with rfl | hx
      · exact PySem.W.mg_none_of X G z4
      rcases List.mem_cons.mp hx with rfl | hx
      · exact PySem.W.mg_none_of X G z5
      rcases List.mem_cons.mp hx with rfl | hx
      · exact PySem.W.mg_none_of X G z6
      rcases List.mem_cons.mp hx with rfl | hx
      · exact PySem.W.mg_none_of X G z7
      rcases List.mem_cons.mp hx with rfl | hx
      · exact PySem.W.mg_none_of X G z8
      rcases List.mem_cons.mp hx with rfl | hx
      · exact PySem.W.mg_none_of X G z9
      rcases List.mem_cons.mp hx with rfl | hx
      · exact PySem.W.mg_none_of X G z10
      rcases List.mem_cons.mp hx with rfl | hx
      · exact PySem.W.mg_none_of X G z11
      rcases List.mem_cons.mp hx with rfl | hx
      · exact PySem.W.mg_none_of X G z12
      rcases List.mem_cons.mp hx with rfl | hx
      · exact PySem.W.mg_none_of X G z13
      rcases List.mem_cons.mp hx with rfl | hx
      · exact PySem.W.mg_none_of X G z14
      rcases List.mem_cons.mp hx with rfl | hx
      · exact PySem.W.mg_none_of X G z15
      rcases List.mem_cons.mp hx with rfl | hx
      · exact PySem.W.mg_none_of X G z16
      rcases List.mem_cons.mp hx with rfl | hx
      · exact PySem.W.mg_none_of X G z17
      rcases List.mem_cons.mp hx with rfl | hx
      · exact PySem.W.mg_none_of X G z18
      exact absurd hx List.not_mem_nil }
  have F := fun_mk (st := topS 38) l32 c32 k32
  exact ⟨_, fun s v => .of_eq rfl, fun base _ _ => ok_law L F T⟩
end K89
open PySem PySem.W PyProof.Rows
set_option maxRecDepth 100000 in
set_option maxHeartbeats 0 in
theorem PySem.Challenge.cw_saidbefore_k89_whole_ends_repeats_holds : PySem.Challenge.rw_saidbefore_k89_whole_ends_repeats.Holds := by
  w_on; o_law; k_head; (case hw => w_witness2)
  k_fill
  refine L2.walk_of (l := PySem.Challenge.rw_saidbefore_k89_whole_ends_repeats) (n := 63) (k := 10) (x := "script") (CX := fun w => L2.CX PySem.Challenge.rw_saidbefore_k89_whole_ends_repeats.prog w) (sp := fun w => K89.spLaw _) rfl (by decide) rfl ⟨rfl, by decide, by decide⟩ (fun w h Y => PySem.W.kIn_of Y) ?F (fun _ _ a ns hl _ hS => ⟨a, ns, rfl, hS, hl, fun _ => rfl⟩) (fun _ _ _ _ _ h => K89.cx_false h)
  case F =>
    intro w mg fa h KX G hmg
    refine' K89.all_mk K89.law_true KX G hmg ?a0 ?l0 ?c0 ?k0 ?a1 ?l1 ?c1 ?k1 ?a2 ?l2 ?c2 ?k2 ?a3 ?l3 ?c3 ?k3 ?a4 ?l4 ?c4 ?k4 ?a5 ?l5 ?c5 ?k5 ?a6 ?l6 ?c6 ?k6 ?a7 ?l7 ?c7 ?k7 ?a8 ?l8 ?c8 ?k8 ?a9 ?l9 ?c9 ?k9 ?a10 ?l10 ?c10 ?k10 ?a11 ?l11 ?c11 ?k11 ?a12 ?l12 ?c12 ?k12 ?a13 ?l13 ?c13 ?k13 ?a14 ?l14 ?c14 ?k14 ?a15 ?l15 ?c15 ?k15 ?a16 ?l16 ?c16 ?k16 ?a17 ?l17 ?c17 ?k17 ?a18 ?l18 ?c18 ?k18 ?a19 ?l19 ?c19 ?k19 ?a20 ?l20 ?c20 ?k20 ?a21 ?l21 ?c21 ?k21 ?a22 ?l22 ?c22 ?k22 ?a23 ?l23 ?c23 ?k23 ?a24 ?l24 ?c24 ?k24 ?a25 ?l25 ?c25 ?k25 ?a26 ?l26 ?c26 ?k26 ?a27 ?l27 ?c27 ?k27 ?a28 ?l28 ?c28 ?k28 ?a29 ?l29 ?c29 ?k29 ?a30 ?l30 ?c30 ?k30 ?a31 ?l31 ?c31 ?k31 ?a32 ?l32 ?c32 ?k32 ?z0 ?z1 ?z2 ?z3 ?z4 ?z5 ?z6 ?z7 ?z8 ?z9 ?z10 ?z11 ?z12 ?z13 ?z14 ?z15 ?z16 ?z17 ?z18
    (case a0 => k_is)
    (case l0 => k_is)
    (case c0 => k_is)
    (case k0 => k_is)
    (case a1 => k_is)
    (case l1 => k_is)
    (case c1 => k_is)
    (case k1 => k_is)
    (case a2 => k_is)
    (case l2 => k_is)
    (case c2 => k_is)
    (case k2 => k_is)
    (case a3 => k_is)
    (case l3 => k_is)
    (case c3 => k_is)
    (case k3 => k_is)
    (case a4 => k_is)
    (case l4 => k_is)
    (case c4 => k_is)
    (case k4 => k_is)
    (case a5 => k_is)
    (case l5 => k_is)
    (case c5 => k_is)
    (case k5 => k_is)
    (case a6 => k_is)
    (case l6 => k_is)
    (case c6 => k_is)
    (case k6 => k_is)
    (case a7 => k_is)
    (case l7 => k_is)
    (case c7 => k_is)
    (case k7 => k_is)
    (case a8 => k_is)
    (case l8 => k_is)
    (case c8 => k_is)
    (case k8 => k_is)
    (case a9 => k_is)
    (case l9 => k_is)
    (case c9 => k_is)
    (case k9 => k_is)
    (case a10 => k_is)
    (case l10 => k_is)
    (case c10 => k_is)
    (case k10 => k_is)
    (case a11 => k_is)
    (case l11 => k_is)
    (case c11 => k_is)
    (case k11 => k_is)
    (case a12 => k_is)
    (case l12 => k_is)
    (case c12 => k_is)
    (case k12 => k_is)
    (case a13 => k_is)
    (case l13 => k_is)
    (case c13 => k_is)
    (case k13 => k_is)
    (case a14 => k_is)
    (case l14 => k_is)
    (case c14 => k_is)
    (case k14 => k_is)
    (case a15 => k_is)
    (case l15 => k_is)
    (case c15 => k_is)
    (case k15 => k_is)
    (case a16 => k_is)
    (case l16 => k_is)
    (case c16 => k_is)
    (case k16 => k_is)
    (case a17 => k_is)
    (case l17 => k_is)
    (case c17 => k_is)
    (case k17 => k_is)
    (case a18 => k_is)
    (case l18 => k_is)
    (case c18 => k_is)
    (case k18 => k_is)
    (case a19 => k_is)
    (case l19 => k_is)
    (case c19 => k_is)
    (case k19 => k_is)
    (case a20 => k_is)
    (case l20 => k_is)
    (case c20 => k_is)
    (case k20 => k_is)
    (case a21 => k_is)
    (case l21 => k_is)
    (case c21 => k_is)
    (case k21 => k_is)
    (case a22 => k_is)
    (case l22 => k_is)
    (case c22 => k_is)
    (case k22 => k_is)
    (case a23 => k_is)
    (case l23 => k_is)
    (case c23 => k_is)
    (case k23 => k_is)
    (case a24 => k_is)
    (case l24 => k_is)
    (case c24 => k_is)
    (case k24 => k_is)
    (case a25 => k_is)
    (case l25 => k_is)
    (case c25 => k_is)
    (case k25 => k_is)
    (case a26 => k_is)
    (case l26 => k_is)
    (case c26 => k_is)
    (case k26 => k_is)
    (case a27 => k_is)
    (case l27 => k_is)
    (case c27 => k_is)
    (case k27 => k_is)
    (case a28 => k_is)
    (case l28 => k_is)
    (case c28 => k_is)
    (case k28 => k_is)
    (case a29 => k_is)
    (case l29 => k_is)
    (case c29 => k_is)
    (case k29 => k_is)
    (case a30 => k_is)
    (case l30 => k_is)
    (case c30 => k_is)
    (case k30 => k_is)
    (case a31 => k_is)
    (case l31 => k_is)
    (case c31 => k_is)
    (case k31 => k_is)
    (case a32 => k_is)
    (case l32 => k_is)
    (case c32 => k_is)
    (case k32 => k_is)
    (case z0 => k_is)
    (case z1 => k_is)
    (case z2 => k_is)
    (case z3 => k_is)
    (case z4 => k_is)
    (case z5 => k_is)
    (case z6 => k_is)
    (case z7 => k_is)
    (case z8 => k_is)
    (case z9 => k_is)
    (case z10 => k_is)
    (case z11 => k_is)
    (case z12 => k_is)
    (case z13 => k_is)
    (case z14 => k_is)
    (case z15 => k_is)
    (case z16 => k_is)
    (case z17 => k_is)
    (case z18 => k_is)
