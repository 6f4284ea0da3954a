import PyProof.Rows.All
import Wide.All
import OpenK.AllK
import Wide.FinOn
import HandS.ForMost
import HandS.Walk
import HandS.Conv
import HandS.TupAny
import HandS.TupLe
import HandS.Rev
import HandS.RevRange
import HandS.Zip
import HandS.IsInst
import HandS.Style
import HandS.More
import HandS.SortOrd
import HandS.SortKw
import HandS.DictComp
import HandS.DictTup
import KE.DataEq
import HandS.Exc
import HandS.CallSlots
import HandS.SortRule
import HandS.SortInts
import HandS.SetBool
import HandS.SetKeys
import HandS.ExcOwn
import HandS.TryMany
import KE.GoesEnum
import HandS.Text
import PyProof.Rows.StrRev
import KE.DatumOrd
import HandS.ExcInit
import HandS.ExcField
import KE.KExcIs
import HandS.Small
import HandS.WordsExc
import PySem.Challenge.RW_saidbefore_k86_whole_bounds
set_option Elab.async false
set_option linter.all false
set_option maxRecDepth 100000
set_option maxHeartbeats 4000000
/-! values as trees, what they are at a heap -/
namespace TI
open PySem PySem.Spec PyProof.Rows L2

/-- a text by its codes -/
def S (s : List Nat) : Str := ⟨s.toArray⟩
theorem S_cps (s : List Nat) : (S s).cps.toList = s := by simp [S]
theorem S_len (s : List Nat) : (S s).length = s.length := by simp [S, Str.length]
theorem S_of (x : Str) : S x.cps.toList = x := by simp [S]
theorem S_inj {s t : List Nat} (h : S s = S t) : s = t := by
  have := congrArg (fun x : Str => x.cps.toList) h
  simpa [S_cps] using this
theorem S_app (s t : List Nat) : S s ++ S t = S (s ++ t) := by
  show Str.append (S s) (S t) = _
  simp [Str.append, S]

inductive Ky where
  | i (n : Int) | s (x : List Nat)
  deriving DecidableEq, Repr
def Ky.k : Ky → Key
  | .i n => .inl n
  | .s x => .inr (S x)
theorem Ky.k_inj {a b : Ky} (h : a.k = b.k) : a = b := by
  cases a <;> cases b <;> simp [Ky.k] at h
  · subst h; rfl
  · rw [S_inj h]

inductive D where
  | non | bl (b : Bool) | int (i : Int) | str (s : List Nat)
  | tup (xs : List D) | lst (xs : List D)
  | dK (ks : List Ky) (vs : List D)
  | dT (ks : List (List Ky)) (vs : List D)
  | wel
  deriving Repr

mutual
/-- nothing that can change lies within -/
def D.pure : D → Bool
  | .non | .bl _ | .int _ | .str _ | .wel => true
  | .tup xs => D.pureL xs
  | .lst _ | .dK _ _ | .dT _ _ => false
def D.pureL : List D → Bool
  | [] => true
  | d :: ds => d.pure && D.pureL ds
end

def mutO : HO → Bool
  | .lst _ | .dK _ | .dT _ | .ext _ => true
  | _ => false

mutual
/-- v is the tree d at H; what can change and is reached is not in B; r: the well -/
inductive Den (K : PySem.W.Frag) (r : Addr) (H : Hp) (B : Addr → Prop) : V → D → Prop
  | non : Den K r H B .non .non
  | bl (b : Bool) : Den K r H B (.bl b) (.bl b)
  | int (i : Int) : Den K r H B (.int i) (.int i)
  | str (s : List Nat) : Den K r H B (.str (S s)) (.str s)
  | tup {a : Addr} {vs : List V} {ds : List D} : H a = some (.tup vs) → DenL K r H B vs ds → Den K r H B (.ref a) (.tup ds)
  | lst {a : Addr} {vs : List V} {ds : List D} : H a = some (.lst vs) → ¬ B a → DenL K r H B vs ds → Den K r H B (.ref a) (.lst ds)
  | dK {a : Addr} {kvs : List (Key × V)} {ks : List Ky} {ds : List D} : H a = some (.dK kvs) → ¬ B a → kvs.map (·.1) = ks.map Ky.k → DenL K r H B (kvs.map (·.2)) ds → Den K r H B (.ref a) (.dK ks ds)
  | dT {a : Addr} {kvs : List (List Key × V)} {ks : List (List Ky)} {ds : List D} : H a = some (.dT kvs) → ¬ B a → kvs.map (·.1) = ks.map (·.map Ky.k) → DenL K r H B (kvs.map (·.2)) ds → Den K r H B (.ref a) (.dT ks ds)
  | wel : Den K r H B (.ref r) .wel
inductive DenL (K : PySem.W.Frag) (r : Addr) (H : Hp) (B : Addr → Prop) : List V → List D → Prop
  | nil : DenL K r H B [] []
  | cons {v : V} {vs : List V} {d : D} {ds : List D} : Den K r H B v d → DenL K r H B vs ds → DenL K r H B (v :: vs) (d :: ds)
end

/-- what is not in B stays -/
def Fr (B : Addr → Prop) (H H' : Hp) : Prop := ∀ a o, H a = some o → ¬ B a → H' a = some o
/-- B holds things that can change, all there -/
def BOk (B : Addr → Prop) (H : Hp) : Prop := ∀ a, B a → ∃ o, H a = some o ∧ mutO o = true
/-- what of B is there can change -/
def BM (B : Addr → Prop) (H : Hp) : Prop := ∀ a o, H a = some o → B a → mutO o = true
theorem BOk.bm {B : Addr → Prop} {H : Hp} (h : BOk B H) : BM B H := fun a o e b => by
  obtain ⟨o', e', m⟩ := h a b
  rw [e] at e'; cases e'; exact m
theorem Fr.refl {B : Addr → Prop} {H : Hp} : Fr B H H := fun _ _ h _ => h
theorem Fr.trans {B : Addr → Prop} {H H1 H2 : Hp} (a : Fr B H H1) (b : Fr B H1 H2) : Fr B H H2 := fun x o h n => b x o (a x o h n) n
theorem Fr.mono {B B' : Addr → Prop} {H H' : Hp} (a : Fr B H H') (h : ∀ x, B x → B' x) : Fr B' H H' := fun x o e n => a x o e fun b => n (h x b)
theorem Fr.new {B : Addr → Prop} {H : Hp} {p : Addr} {o : HO} (h : H p = none) : Fr B H (upd H p o) := fun x u e _ => by
  rw [upd_ne (ne_of_none e h)]; exact e
theorem Fr.put {B : Addr → Prop} {H : Hp} {p : Addr} {o : HO} (h : B p) : Fr B H (upd H p o) := fun x u e n => by
  rw [upd_ne (fun q => n (by rw [q]; exact h))]; exact e

section
variable {K : PySem.W.Frag} {r : Addr} {H H' : Hp} {B B' : Addr → Prop}
theorem tup_frM {a : Addr} {vs : List V} (f : Fr B H H') (b : BM B H) (h : H a = some (.tup vs)) : H' a = some (.tup vs) :=
  f _ _ h fun q => by
    have := b a _ h q
    cases this
theorem tup_fr {a : Addr} {vs : List V} (f : Fr B H H') (b : BOk B H) (h : H a = some (.tup vs)) : H' a = some (.tup vs) := tup_frM f b.bm h
mutual
theorem Den.frM (f : Fr B H H') (b : BM B H) : ∀ (d : D) (v : V), Den K r H B v d → Den K r H' B v d
  | .non, _, h => by cases h; exact .non
  | .bl _, _, h => by cases h; exact .bl _
  | .int _, _, h => by cases h; exact .int _
  | .str _, _, h => by cases h; exact .str _
  | .tup ds, _, h => by
    cases h with
    | tup h1 h2 => exact .tup (tup_frM f b h1) (DenL.frM f b ds _ h2)
  | .lst ds, _, h => by
    cases h with
    | lst h1 n h2 => exact .lst (f _ _ h1 n) n (DenL.frM f b ds _ h2)
  | .dK ks ds, _, h => by
    cases h with
    | dK h1 n e h2 => exact .dK (f _ _ h1 n) n e (DenL.frM f b ds _ h2)
  | .dT ks ds, _, h => by
    cases h with
    | dT h1 n e h2 => exact .dT (f _ _ h1 n) n e (DenL.frM f b ds _ h2)
  | .wel, _, h => by cases h; exact .wel
theorem DenL.frM (f : Fr B H H') (b : BM B H) : ∀ (ds : List D) (vs : List V), DenL K r H B vs ds → DenL K r H' B vs ds
  | [], _, h => by cases h; exact .nil
  | d :: ds, _, h => by
    cases h with
    | cons h1 h2 => exact .cons (Den.frM f b d _ h1) (DenL.frM f b ds _ h2)
end
theorem Den.fr (f : Fr B H H') (b : BOk B H) (d : D) (v : V) (h : Den K r H B v d) : Den K r H' B v d := Den.frM f b.bm d v h
theorem DenL.fr (f : Fr B H H') (b : BOk B H) (ds : List D) (vs : List V) (h : DenL K r H B vs ds) : DenL K r H' B vs ds := DenL.frM f b.bm ds vs h
mutual
/-- another B, in which nothing is that is there and not in the first -/
theorem Den.ban (n : ∀ a o, H a = some o → mutO o = true → ¬ B a → ¬ B' a) : ∀ (d : D) (v : V), Den K r H B v d → Den K r H B' v d
  | .non, _, h => by cases h; exact .non
  | .bl _, _, h => by cases h; exact .bl _
  | .int _, _, h => by cases h; exact .int _
  | .str _, _, h => by cases h; exact .str _
  | .tup ds, _, h => by
    cases h with
    | tup h1 h2 => exact .tup h1 (DenL.ban n ds _ h2)
  | .lst ds, _, h => by
    cases h with
    | lst h1 m h2 => exact .lst h1 (n _ _ h1 rfl m) (DenL.ban n ds _ h2)
  | .dK ks ds, _, h => by
    cases h with
    | dK h1 m e h2 => exact .dK h1 (n _ _ h1 rfl m) e (DenL.ban n ds _ h2)
  | .dT ks ds, _, h => by
    cases h with
    | dT h1 m e h2 => exact .dT h1 (n _ _ h1 rfl m) e (DenL.ban n ds _ h2)
  | .wel, _, h => by cases h; exact .wel
theorem DenL.ban (n : ∀ a o, H a = some o → mutO o = true → ¬ B a → ¬ B' a) : ∀ (ds : List D) (vs : List V), DenL K r H B vs ds → DenL K r H B' vs ds
  | [], _, h => by cases h; exact .nil
  | d :: ds, _, h => by
    cases h with
    | cons h1 h2 => exact .cons (Den.ban n d _ h1) (DenL.ban n ds _ h2)
end
mutual
/-- of a pure tree B says nothing -/
theorem Den.pur : ∀ (d : D) (v : V), d.pure = true → Den K r H B v d → Den K r H B' v d
  | .non, _, _, h => by cases h; exact .non
  | .bl _, _, _, h => by cases h; exact .bl _
  | .int _, _, _, h => by cases h; exact .int _
  | .str _, _, _, h => by cases h; exact .str _
  | .tup ds, _, p, h => by
    cases h with
    | tup h1 h2 => exact .tup h1 (DenL.pur ds _ (by simpa [D.pure] using p) h2)
  | .lst ds, _, p, h => by simp [D.pure] at p
  | .dK _ _, _, p, h => by simp [D.pure] at p
  | .dT _ _, _, p, h => by simp [D.pure] at p
  | .wel, _, _, h => by cases h; exact .wel
theorem DenL.pur : ∀ (ds : List D) (vs : List V), D.pureL ds = true → DenL K r H B vs ds → DenL K r H B' vs ds
  | [], _, _, h => by cases h; exact .nil
  | d :: ds, _, p, h => by
    simp only [D.pureL, Bool.and_eq_true] at p
    cases h with
    | cons h1 h2 => exact .cons (Den.pur d _ p.1 h1) (DenL.pur ds _ p.2 h2)
end
theorem DenL.length : ∀ {vs : List V} {ds : List D}, DenL K r H B vs ds → vs.length = ds.length
  | _, _, .nil => rfl
  | _, _, .cons _ t => by simp [t.length]
theorem DenL.get : ∀ {vs : List V} {ds : List D} {i : Nat} {d : D}, DenL K r H B vs ds → ds[i]? = some d → ∃ v, vs[i]? = some v ∧ Den K r H B v d
  | _, _, _, _, .nil, e => by simp at e
  | _, _, 0, _, .cons h _, e => by simp at e; subst e; exact ⟨_, rfl, h⟩
  | _, _, i + 1, _, .cons _ t, e => by
    obtain ⟨v, h1, h2⟩ := t.get (i := i) (by simpa using e)
    exact ⟨v, by simpa using h1, h2⟩
theorem DenL.getV : ∀ {vs : List V} {ds : List D} {i : Nat} {v : V}, DenL K r H B vs ds → vs[i]? = some v → ∃ d, ds[i]? = some d ∧ Den K r H B v d
  | _, _, _, _, .nil, e => by simp at e
  | _, _, 0, _, .cons h _, e => by simp at e; subst e; exact ⟨_, rfl, h⟩
  | _, _, i + 1, _, .cons _ t, e => by
    obtain ⟨v, h1, h2⟩ := t.getV (i := i) (by simpa using e)
    exact ⟨v, by simpa using h1, h2⟩
theorem DenL.append : ∀ {vs : List V} {ds : List D} {ws : List V} {es : List D}, DenL K r H B vs ds → DenL K r H B ws es → DenL K r H B (vs ++ ws) (ds ++ es)
  | _, _, _, _, .nil, h => h
  | _, _, _, _, .cons h t, u => .cons h (t.append u)
theorem DenL.take : ∀ {vs : List V} {ds : List D} (n : Nat), DenL K r H B vs ds → DenL K r H B (vs.take n) (ds.take n)
  | _, _, 0, _ => .nil
  | _, _, _ + 1, .nil => .nil
  | _, _, n + 1, .cons h t => .cons h (t.take n)
theorem DenL.drop : ∀ {vs : List V} {ds : List D} (n : Nat), DenL K r H B vs ds → DenL K r H B (vs.drop n) (ds.drop n)
  | _, _, 0, h => h
  | _, _, _ + 1, .nil => .nil
  | _, _, n + 1, .cons _ t => t.drop n
theorem DenL.rev {vs : List V} {ds : List D} (h : DenL K r H B vs ds) : DenL K r H B vs.reverse ds.reverse := by
  induction vs generalizing ds with
  | nil => cases h; exact .nil
  | cons v vs ih =>
    cases h with
    | cons h1 h2 => rw [List.reverse_cons, List.reverse_cons]; exact (ih h2).append (.cons h1 .nil)
theorem DenL.set {v : V} {d : D} (q : Den K r H B v d) : ∀ {vs : List V} {ds : List D} (i : Nat), DenL K r H B vs ds → DenL K r H B (vs.set i v) (ds.set i d)
  | _, _, _, .nil => .nil
  | _, _, 0, .cons _ t => .cons q t
  | _, _, i + 1, .cons h t => .cons h (t.set q i)
theorem DenL.rep {vs : List V} {ds : List D} (h : DenL K r H B vs ds) : ∀ k : Nat, DenL K r H B (List.replicate k vs).flatten (List.replicate k ds).flatten
  | 0 => .nil
  | k + 1 => by rw [List.replicate_succ, List.replicate_succ, List.flatten_cons, List.flatten_cons]; exact h.append (h.rep k)
theorem DenL.ints : ∀ {vs : List V} {ns : List Int}, DenL K r H B vs (ns.map D.int) → vs = ns.map V.int
  | _, [], h => by cases h; rfl
  | _, n :: ns, h => by
    cases h with
    | cons h1 h2 => cases h1; rw [h2.ints]; rfl
theorem DenL.of_ints : ∀ {ns : List Int}, DenL K r H B (ns.map V.int) (ns.map D.int)
  | [] => .nil
  | _ :: _ => .cons (.int _) .of_ints
theorem DenL.strs : ∀ {vs : List V} {ns : List (List Nat)}, DenL K r H B vs (ns.map D.str) → vs = ns.map (V.str ∘ S)
  | _, [], h => by cases h; rfl
  | _, n :: ns, h => by
    cases h with
    | cons h1 h2 => cases h1; rw [h2.strs]; rfl
theorem DenL.of_strs : ∀ {ns : List (List Nat)}, DenL K r H B (ns.map (V.str ∘ S)) (ns.map D.str)
  | [] => .nil
  | _ :: _ => .cons (.str _) .of_strs
theorem DenL.bls : ∀ {vs : List V} {ns : List Bool}, DenL K r H B vs (ns.map D.bl) → vs = ns.map V.bl
  | _, [], h => by cases h; rfl
  | _, n :: ns, h => by
    cases h with
    | cons h1 h2 => cases h1; rw [h2.bls]; rfl
end
end TI
set_option Elab.async false
set_option linter.all false
set_option maxRecDepth 100000
set_option maxHeartbeats 4000000
/-! the small language: its terms, what they are worth -/
namespace TI
open PySem L2

abbrev G := List (List Int)
structure Er where
  cls : List Nat
  nms : List (List Nat)
  args : List D
inductive Res (α : Type) where
  | ok (a : α) (g : G) | err (e : Er) (g : G) | stuck
def M (α : Type) : Type := G → Res α
namespace M
def ret {α : Type} (a : α) : M α := fun g => .ok a g
def bnd {α β : Type} (m : M α) (f : α → M β) : M β := fun g => match m g with
  | .ok a g' => f a g'
  | .err e g' => .err e g'
  | .stuck => .stuck
def stk {α : Type} : M α := fun _ => .stuck
def thr {α : Type} (e : Er) : M α := fun g => .err e g
end M
instance : Monad M where
  pure := M.ret
  bind := M.bnd
theorem M.ext {α : Type} {m n : M α} (h : ∀ g, m g = n g) : m = n := funext h
instance : LawfulMonad M := LawfulMonad.mk' M
  (id_map := fun x => by
    funext g
    show M.bnd x (fun a => M.ret (id a)) g = x g
    unfold M.bnd
    cases x g <;> rfl)
  (pure_bind := fun x f => rfl)
  (bind_assoc := fun x f h => by
    funext g
    show M.bnd (M.bnd x f) h g = M.bnd x (fun a => M.bnd (f a) h) g
    unfold M.bnd
    cases x g <;> rfl)
@[simp] theorem M.stk_bind {α β : Type} (f : α → M β) : ((M.stk : M α) >>= f) = M.stk := rfl
@[simp] theorem M.thr_bind {α β : Type} (e : Er) (f : α → M β) : ((M.thr e : M α) >>= f) = M.thr e := rfl
/-- nothing is raised -/
def nox {α : Type} (m : M α) : M α := fun g => match m g with
  | .ok a g' => .ok a g'
  | _ => .stuck
@[simp] theorem nox_pure {α : Type} (a : α) : nox (pure a) = pure a := rfl
@[simp] theorem nox_stk {α : Type} : nox (M.stk : M α) = M.stk := rfl
theorem nox_bind {α β : Type} (m : M α) (f : α → M β) : nox (m >>= f) = nox m >>= fun a => nox (f a) := by
  funext g
  show nox (M.bnd m f) g = M.bnd (nox m) (fun a => nox (f a)) g
  cases h : m g <;> simp only [nox, M.bnd, h]
/-- an Option's value, else stuck -/
def opt {α : Type} : Option α → M α
  | some a => pure a
  | none => M.stk
@[simp] theorem opt_some {α : Type} (a : α) : opt (some a) = pure a := rfl
@[simp] theorem opt_none {α : Type} : opt (none : Option α) = M.stk := rfl
/-- if c holds m, else stuck -/
def grd {α : Type} (c : Bool) (m : M α) : M α := if c = true then m else M.stk
theorem grd_true {α : Type} {c : Bool} {m : M α} (h : c = true) : grd c m = m := if_pos h

/-! ### what operations are worth -/
def line : Nat := 16777216
theorem line_eq : line = sizeLine := by rw [sizeLine_eq]; rfl

mutual
def D.py : D → PyData
  | .non => .none
  | .bl b => .bool b
  | .int i => .int i
  | .str s => .str (S s)
  | .tup xs => .tuple (D.pyL xs)
  | .lst xs => .list (D.pyL xs)
  | .dK _ _ | .dT _ _ | .wel => .dict []
def D.pyL : List D → List PyData
  | [] => []
  | x :: xs => x.py :: D.pyL xs
end
mutual
/-- no dict lies within -/
def D.flat : D → Bool
  | .non | .bl _ | .int _ | .str _ => true
  | .tup xs | .lst xs => D.flatL xs
  | .dK _ _ | .dT _ _ | .wel => false
def D.flatL : List D → Bool
  | [] => true
  | x :: xs => x.flat && D.flatL xs
end
mutual
def D.dep : D → Nat
  | .tup xs | .lst xs => D.depL xs + 1
  | _ => 0
def D.depL : List D → Nat
  | [] => 0
  | x :: xs => max x.dep (D.depL xs)
end
/-- what may be compared by == -/
def D.cmpOk (d : D) : Bool := d.flat && decide (d.dep ≤ 60)
mutual
def eqB : D → D → Bool
  | .non, .non => true
  | .bl a, .bl b => a == b
  | .bl a, .int j => (if a then 1 else 0) == j
  | .int i, .bl b => i == (if b then 1 else 0)
  | .int i, .int j => i == j
  | .str x, .str y => x == y
  | .lst xs, .lst ys => eqL xs ys
  | .tup xs, .tup ys => eqL xs ys
  | _, _ => false
def eqL : List D → List D → Bool
  | [], [] => true
  | x :: xs, y :: ys => eqB x y && eqL xs ys
  | _, _ => false
end
def eqD (a b : D) : M Bool := grd (a.cmpOk && b.cmpOk) (pure (eqB a b))

def isCont : D → Bool
  | .lst _ | .dK _ _ | .dT _ _ => true
  | _ => false
/-- the children of a tree -/
def D.kids : D → List D
  | .lst xs | .tup xs | .dK _ xs | .dT _ xs => xs
  | _ => []
def isScal : D → Bool
  | .non | .bl _ | .int _ | .str _ => true
  | _ => false
/-- a dict's place of a key -/
def kyOf : D → Option Ky
  | .int i => some (.i i)
  | .str s => some (.s s)
  | _ => none
def kyL : List D → Option (List Ky)
  | [] => some []
  | d :: ds => match kyOf d, kyL ds with
    | some k, some ks => some (k :: ks)
    | _, _ => none
def kyT : D → Option (List Ky)
  | .tup ds => kyL ds
  | _ => none
def ltN : List Nat → List Nat → Bool
  | [], [] => false
  | [], _ :: _ => true
  | _ :: _, [] => false
  | x :: xs, y :: ys => if x = y then ltN xs ys else decide (x < y)
def ltKy : Ky → Ky → Bool
  | .i a, .i b => decide (a < b)
  | .s a, .s b => ltN a b
  | .i _, .s _ => true
  | .s _, .i _ => false
def ltKL : List Ky → List Ky → Bool
  | [], [] => false
  | [], _ :: _ => true
  | _ :: _, [] => false
  | x :: xs, y :: ys => if x = y then ltKL xs ys else ltKy x y
/-- the key of a tree that can be sorted -/
def keyD : D → Option (List Ky)
  | .int i => some [.i i]
  | .str s => some [.s s]
  | .tup ds => kyL ds
  | _ => none
def kyB : Ky → Bool
  | .i _ => true
  | .s _ => false
/-- ints: 0, texts: 1, tuples: their members' kinds -/
def shD : D → Option (Nat × List Bool)
  | .int _ => some (0, [])
  | .str _ => some (1, [])
  | .tup ds => match kyL ds with
    | some (k :: ks) => some (2, (k :: ks).map kyB)
    | _ => none
  | _ => none
/-- all of one kind -/
def srtOk : List D → Bool
  | [] => true
  | d :: ds => (shD d).isSome && ds.all fun e => decide (shD e = shD d)
def leD (a b : D) : Bool := !ltKL ((keyD b).getD []) ((keyD a).getD [])
def sortD (ds : List D) : List D := ds.mergeSort leD
def Ky.d : Ky → D
  | .i n => .int n
  | .s x => .str x
/-- a key is put into a set -/
def addK (ks : List Ky) (k : Ky) : List Ky := if k ∈ ks then ks else ks ++ [k]
def memA {α : Type} [DecidableEq α] (k : α) (ks : List α) : Bool := ks.any fun a => decide (a = k)
def lookA {α : Type} [DecidableEq α] (k : α) : List α → List D → Option D
  | a :: as, d :: ds => if a = k then some d else lookA k as ds
  | _, _ => none
def repA {α : Type} [DecidableEq α] (k : α) (v : D) : List α → List D → List D
  | a :: as, d :: ds => (if a = k then v else d) :: repA k v as ds
  | _, _ => []
def putA {α : Type} [DecidableEq α] (k : α) (v : D) (ks : List α) (vs : List D) : List α × List D := if memA k ks = true then (ks, repA k v ks vs) else (ks ++ [k], vs ++ [v])

/-- 'b stands in a' -/
def hasSub (b : List Nat) : List Nat → Bool
  | [] => b.isEmpty
  | a :: as => b.isPrefixOf (a :: as) || hasSub b as
def ltS : List Nat → List Nat → Bool
  | [], [] => false
  | [], _ :: _ => true
  | _ :: _, [] => false
  | x :: xs, y :: ys => if x = y then ltS xs ys else decide (x < y)
def cmulB (i j : Int) : Bool := decide (-(2 ^ 64) < i ∧ i < 2 ^ 64) || decide (-(2 ^ 64) < j ∧ j < 2 ^ 64)
def cpowB (i j : Int) : Bool := decide (0 ≤ j ∧ j ≤ 1000000 ∧ i.natAbs < 2 ^ 64)
def cutL {α : Type} (xs : List α) (lo hi : Option Int) : List α := (xs.drop (HT.sIx xs.length 0 lo)).take (HT.sIx xs.length xs.length hi - HT.sIx xs.length 0 lo)

def binD : Operator → D → D → M D
  | .Add, .int i, .int j => pure (.int (i + j))
  | .Add, .str s, .str t => grd (decide (s.length + t.length ≤ line)) (pure (.str (s ++ t)))
  | .Add, .lst xs, .lst ys => grd (decide (xs.length + ys.length ≤ line)) (pure (.lst (xs ++ ys)))
  | .Add, .tup xs, .tup ys => grd (decide (xs.length + ys.length ≤ line)) (pure (.tup (xs ++ ys)))
  | .Sub, .int i, .int j => pure (.int (i - j))
  | .Mult, .int i, .int j => grd (cmulB i j) (pure (.int (i * j)))
  | .Mult, .lst xs, .int k => grd (decide (-(2 ^ 63) ≤ k ∧ k < 2 ^ 63 ∧ xs.length * k.toNat ≤ line)) (pure (.lst (List.replicate k.toNat xs).flatten))
  | .FloorDiv, .int i, .int j => grd (decide (0 < j ∧ j < 1073741824)) (pure (.int (i / j)))
  | .Mod, .int i, .int j => grd (decide (0 < j)) (pure (.int (i % j)))
  | .Pow, .int i, .int j => grd (cpowB i j) (pure (.int (i ^ j.toNat)))
  | .RShift, .int i, .int j => grd (decide (0 ≤ j)) (pure (.int (i / 2 ^ j.toNat)))
  | .BitXor, .int i, .int j => pure (.int (Builtin.bitXor i j))
  | _, _, _ => M.stk

def inD (d : D) : D → M Bool
  | .str t => match d with
    | .str s => pure (hasSub s t)
    | _ => M.stk
  | .lst xs => grd (d.cmpOk && (D.lst xs).cmpOk) (pure (xs.any fun z => eqB z d))
  | .tup xs => grd (d.cmpOk && (D.tup xs).cmpOk) (pure (xs.any fun z => eqB z d))
  | .dK ks _ => match kyOf d with
    | some k => pure (memA k ks)
    | none => M.stk
  | .dT ks _ => match kyT d with
    | some k => pure (memA k ks)
    | none => M.stk
  | _ => M.stk

def cmpD : CmpOp → D → D → M Bool
  | .Eq, a, b => eqD a b
  | .NotEq, a, b => do pure (!(← eqD a b))
  | .Lt, .int i, .int j => pure (decide (i < j))
  | .LtE, .int i, .int j => pure (decide (i ≤ j))
  | .Gt, .int i, .int j => pure (decide (j < i))
  | .GtE, .int i, .int j => pure (decide (j ≤ i))
  | .Lt, .str s, .str t => pure (ltS s t)
  | .In, a, b => inD a b
  | .NotIn, a, b => do pure (!(← inD a b))
  | .Is, a, .non => pure (match a with | .non => true | _ => false)
  | .IsNot, a, .non => pure (match a with | .non => false | _ => true)
  | _, _, _ => M.stk

def subD : D → D → M D
  | .lst xs, .int i => opt (atI xs i)
  | .tup xs, .int i => opt (atI xs i)
  | .str s, .int i => grd (decide (s.length ≤ line)) (match atI s i with
    | some c => pure (.str [c])
    | none => M.stk)
  | .dK ks vs, k => match kyOf k with
    | some k => opt (lookA k ks vs)
    | none => M.stk
  | .dT ks vs, k => match kyT k with
    | some k => opt (lookA k ks vs)
    | none => M.stk
  | _, _ => M.stk
def slcD : D → Option Int → Option Int → M D
  | .str s, lo, hi => grd (decide (s.length ≤ line)) (pure (.str (cutL s lo hi)))
  | .lst xs, lo, hi => pure (.lst (cutL xs lo hi))
  | .tup xs, lo, hi => pure (.tup (cutL xs lo hi))
  | _, _, _ => M.stk

def rvD : D → M D
  | .str s => grd (decide (s.length ≤ line)) (pure (.str s.reverse))
  | .lst xs => pure (.lst xs.reverse)
  | _ => M.stk

/-- the built-ins by their names -/
inductive Bl where
  | len | sum | max | min | abs | int | tuple | list | any | all | ord | sorted
  deriving DecidableEq, Repr
def Bl.name : Bl → Str
  | .len => "len" | .sum => "sum" | .max => "max" | .min => "min" | .abs => "abs" | .int => "int" | .tuple => "tuple" | .list => "list" | .any => "any" | .all => "all" | .ord => "ord" | .sorted => "sorted"
def intsOf : List D → Option (List Int)
  | [] => some []
  | .int i :: ds => (intsOf ds).map (i :: ·)
  | _ => none
def blsOf : List D → Option (List Bool)
  | [] => some []
  | .bl i :: ds => (blsOf ds).map (i :: ·)
  | _ => none
def strsOf : List D → Option (List (List Nat))
  | [] => some []
  | .str i :: ds => (strsOf ds).map (i :: ·)
  | _ => none
def maxI : Int → List Int → Int
  | m, [] => m
  | m, n :: ns => maxI (if m < n then n else m) ns
def minI : Int → List Int → Int
  | m, [] => m
  | m, n :: ns => minI (if n < m then n else m) ns
def bltD : Bl → List D → M D
  | .len, [.str s] => grd (decide (s.length ≤ line)) (pure (.int s.length))
  | .len, [.lst xs] => pure (.int xs.length)
  | .len, [.tup xs] => pure (.int xs.length)
  | .len, [.dK ks _] => pure (.int ks.length)
  | .sum, [.lst xs] => match intsOf xs with
    | some ns => pure (.int ns.sum)
    | none => M.stk
  | .max, [.lst xs] => match intsOf xs with
    | some (n :: ns) => pure (.int (maxI n ns))
    | _ => M.stk
  | .min, [.lst xs] => match intsOf xs with
    | some (n :: ns) => pure (.int (minI n ns))
    | _ => M.stk
  | .max, [.int i, .int j] => pure (.int (if j > i then j else i))
  | .min, [.int i, .int j] => pure (.int (if j < i then j else i))
  | .abs, [.int i] => pure (.int (if i < 0 then -i else i))
  | .int, [.int i] => pure (.int i)
  | .int, [.bl b] => pure (.int (if b then 1 else 0))
  | .tuple, [.lst xs] => pure (.tup xs)
  | .tuple, [.tup xs] => pure (.tup xs)
  | .list, [.lst xs] => pure (.lst xs)
  | .list, [.tup xs] => pure (.lst xs)
  | .any, [.lst xs] => match blsOf xs with
    | some bs => pure (.bl (bs.any id))
    | none => M.stk
  | .all, [.lst xs] => match blsOf xs with
    | some bs => pure (.bl (bs.all id))
    | none => M.stk
  | .ord, [.str [c]] => pure (.int c)
  | .sum, [.tup xs] => match intsOf xs with
    | some ns => pure (.int ns.sum)
    | none => M.stk
  | .sorted, [.lst xs] => grd (srtOk xs) (pure (.lst (sortD xs)))
  | .sorted, [.dK ks _] => grd (srtOk (ks.map Ky.d)) (pure (.lst (sortD (ks.map Ky.d))))
  | _, _ => M.stk

/-- methods of built-in types -/
inductive Mt where
  | join | find | get
  deriving DecidableEq, Repr
def Mt.name : Mt → Str
  | .join => "join" | .find => "find" | .get => "get"
def joinS (sep : List Nat) : List (List Nat) → List Nat
  | [] => []
  | [x] => x
  | x :: y :: r => x ++ sep ++ joinS sep (y :: r)
def sumLen : List (List Nat) → Nat
  | [] => 0
  | x :: r => x.length + sumLen r
def metD : Mt → D → List D → M D
  | .join, .str sep, [.lst xs] => match strsOf xs with
    | some ss => grd (decide (sumLen ss + ss.length * sep.length ≤ line)) (pure (.str (joinS sep ss)))
    | none => M.stk
  | .get, .dK ks vs, [k, d] => match kyOf k with
    | some k => pure ((lookA k ks vs).getD d)
    | none => M.stk
  | .get, .dT ks vs, [k, d] => match kyT k with
    | some k => pure ((lookA k ks vs).getD d)
    | none => M.stk
  | _, _, _ => M.stk

/-- the method is one of the value's type -/
def recOk : Mt → D → Bool
  | .join, .str _ | .find, .str _ | .get, .dK _ _ | .get, .dT _ _ => true
  | _, _ => false
/-- types in isinstance -/
inductive Ty where
  | bool | int | str | tuple | list
  deriving DecidableEq, Repr
def Ty.name : Ty → Str
  | .bool => "bool" | .int => "int" | .str => "str" | .tuple => "tuple" | .list => "list"
def isTy : D → Ty → Bool
  | .bl _, .bool | .bl _, .int | .int _, .int | .str _, .str | .tup _, .tuple | .lst _, .list => true
  | _, _ => false
def tyOk : D → Bool
  | .wel => false
  | _ => true

/-! ### terms -/
abbrev Sem := List D → M D
mutual
inductive Tg where
  | nm (i : Nat)
  | tp (ts : Tgs)
inductive Tgs where
  | nil
  | cons (t : Tg) (ts : Tgs)
end
mutual
inductive Ex where
  | var (i : Nat)
  | con (d : Const)
  | glo (x : Str) (d : D)
  | bin (o : Operator) (a b : Ex)
  | neg (a : Ex)
  | nt (a : Ex)
  | cmp (o : CmpOp) (a b : Ex)
  | cmp2 (o o' : CmpOp) (a b c : Ex)
  | cmp3 (o o' o2 : CmpOp) (a b c d : Ex)
  | and (es : Exs)
  | or (es : Exs)
  | ite (c a b : Ex)
  | tup (es : Exs)
  | lst (es : Exs)
  | sub (a i : Ex)
  | slc (a : Ex) (lo hi : Op)
  | rvs (a : Ex)
  | call (x : Str) (f : Sem) (es : Exs)
  | blt (b : Bl) (es : Exs)
  | met (m : Mt) (a : Ex) (es : Exs)
  | isi (a : Ex) (ts : List Ty) (one : Bool)
  | comp (tg : Tg) (it : It) (c : Op) (e : Ex) (own : List (Str × Nat))
  | dic (t : Bool)
  | ssc (tg : Tg) (it : It) (c : Op) (e : Ex) (own : List (Str × Nat))
  | keyl (i x : Nat)
  | mxd (a : Ex) (d : Int)
inductive Exs where
  | nil
  | cons (e : Ex) (es : Exs)
inductive Op where
  | no
  | so (e : Ex)
inductive It where
  | of (e : Ex)
  | rng (es : Exs)
  | enu (e : Ex)
  | zip (a b : Ex)
  | rev (e : Ex)
end

inductive Sl where
  | no | val (d : D) | own (d : D) | ow2 (d : D)
def Sl.d : Sl → Option D
  | .no => none
  | .val d | .own d | .ow2 d => some d
def vget (ρ : List Sl) (i : Nat) : Option D := (ρ[i]?).bind Sl.d
def wipeS (ρ : List Sl) : List Nat → List Sl
  | [] => ρ
  | v :: vs => (wipeS ρ vs).set v .no

def conD : Const → M D
  | .none => pure .non
  | .bool b => pure (.bl b)
  | .int i => pure (.int i)
  | .str x => pure (.str x.cps.toList)
  | _ => M.stk
mutual
def bindT : Tg → D → List Sl → M (List Sl)
  | .nm i, d, ρ => pure (ρ.set i (.val d))
  | .tp ts, d, ρ => match d with
    | .tup ds => bindTs ts ds ρ
    | _ => M.stk
def bindTs : Tgs → List D → List Sl → M (List Sl)
  | .nil, [], ρ => pure ρ
  | .cons t ts, d :: ds, ρ => do bindTs ts ds (← bindT t d ρ)
  | _, _, _ => M.stk
end
def compL {α β : Type} (f : α → M (Option β)) : List α → M (List β)
  | [] => pure []
  | d :: ds => do
    let o ← f d
    let r ← compL f ds
    pure (match o with
      | some x => x :: r
      | none => r)
def enumFrom' (n : Nat) : List D → List D
  | [] => []
  | d :: ds => .tup [.int n, d] :: enumFrom' (n + 1) ds
def zipD : List D → List D → List D
  | a :: as, b :: bs => .tup [a, b] :: zipD as bs
  | _, _ => []
/-- lo, lo + c, .., n of them -/
def rngD (lo c : Int) : Nat → List D
  | 0 => []
  | n + 1 => .int lo :: rngD (lo + c) c n
def smallB (i : Int) : Bool := decide (-(2 ^ 62) ≤ i ∧ i < 2 ^ 62)
/-- how many turns -/
def cntC (i j c : Int) : Nat := if 0 < c then ((j - i + c - 1) / c).toNat else ((i - j - c - 1) / (-c)).toNat
def rngOf : List D → M (List D)
  | [.int j] => grd (smallB j) (pure (rngD 0 1 j.toNat))
  | [.int i, .int j] => grd (smallB i && smallB j) (pure (rngD i 1 (j - i).toNat))
  | [.int i, .int j, .int c] => grd (smallB i && smallB j && (c == -1)) (pure (rngD i c (i - j).toNat))
  | _ => M.stk
/-- what a walk over d gives -/
def itemsD : D → M (List D)
  | .lst xs => pure xs
  | .tup xs => pure xs
  | .str s => pure (s.map fun c => .str [c])
  | _ => M.stk
def seqD : D → M (List D)
  | .lst xs => pure xs
  | .tup xs => pure xs
  | _ => M.stk
def zip2 : D → D → M (List D)
  | .lst xs, .lst ys => pure (zipD xs ys)
  | .tup xs, .tup ys => pure (zipD xs ys)
  | _, _ => M.stk
def notB : D → M D
  | .bl b => pure (.bl (!b))
  | _ => M.stk
def asB : D → M Bool
  | .bl b => pure b
  | _ => M.stk
def asI : D → M Int
  | .int i => pure i
  | _ => M.stk
mutual
def ev : Ex → List Sl → M D
  | .var i, ρ => opt (vget ρ i)
  | .con c, _ => conD c
  | .glo _ d, _ => pure d
  | .bin o a b, ρ => do binD o (← ev a ρ) (← ev b ρ)
  | .neg a, ρ => do pure (.int (-(← asI (← ev a ρ))))
  | .nt a, ρ => do pure (.bl (!(← asB (← ev a ρ))))
  | .cmp o a b, ρ => do pure (.bl (← cmpD o (← ev a ρ) (← ev b ρ)))
  | .cmp2 o o' a b c, ρ => do
    let x ← ev a ρ
    let y ← ev b ρ
    let k ← cmpD o x y
    if k = true then do pure (.bl (← cmpD o' y (← ev c ρ))) else pure (.bl false)
  | .cmp3 o o' o2 a b c d, ρ => do
    let x ← ev a ρ
    let y ← ev b ρ
    let k ← cmpD o x y
    if k = true then do
      let z ← ev c ρ
      let j ← cmpD o' y z
      if j = true then do pure (.bl (← cmpD o2 z (← ev d ρ))) else pure (.bl false)
    else pure (.bl false)
  | .and es, ρ => evAnd es ρ
  | .or es, ρ => evOr es ρ
  | .ite c a b, ρ => do
    let k ← asB (← ev c ρ)
    if k = true then ev a ρ else ev b ρ
  | .tup es, ρ => do
    let ds ← evs es ρ
    grd (decide (ds.length ≤ line)) (pure (.tup ds))
  | .lst es, ρ => do
    let ds ← evs es ρ
    grd (decide (ds.length ≤ line)) (pure (.lst ds))
  | .sub a i, ρ => do subD (← ev a ρ) (← ev i ρ)
  | .slc a lo hi, ρ => do
    let x ← ev a ρ
    let l ← evOp lo ρ
    let h ← evOp hi ρ
    slcD x l h
  | .rvs a, ρ => do rvD (← ev a ρ)
  | .call _ f es, ρ => do f (← evs es ρ)
  | .blt b es, ρ => do bltD b (← evs es ρ)
  | .met m a es, ρ => do
    let x ← ev a ρ
    grd (recOk m x) (do metD m x (← evs es ρ))
  | .isi a ts _, ρ => do
    let x ← ev a ρ
    grd (tyOk x) (grd (decide (ts.length ≤ line)) (pure (.bl (ts.any (isTy x)))))
  | .comp tg it c e own, ρ => do
    let ds ← evIt it ρ
    grd (decide (ds.length ≤ line)) (do
      pure (.lst (← compL (fun d => do
        let ρ' ← bindT tg d (wipeS ρ (own.map (·.2)))
        let k ← nox (evC c ρ')
        if k = true then do pure (some (← nox (ev e ρ'))) else pure none) ds)))
  | .dic t, _ => pure (if t = true then .dT [] [] else .dK [] [])
  | .ssc tg it c e own, ρ => do
    let ds ← evIt it ρ
    grd (decide (ds.length ≤ 4000)) (do
      let ks ← compL (fun d => do
        let ρ' ← bindT tg d (wipeS ρ (own.map (·.2)))
        let k ← nox (evC c ρ')
        if k = true then do
          let y ← nox (ev e ρ')
          let q ← opt (kyOf y)
          pure (some q) else pure none) ds
      grd (srtOk ((ks.foldl addK []).map Ky.d)) (pure (.lst (sortD ((ks.foldl addK []).map Ky.d)))))
  | .keyl i _, ρ => do
    match vget ρ i with
    | some (.dK ks _) => grd (decide (ks.length ≤ line)) (pure (.lst (ks.map Ky.d)))
    | _ => M.stk
  | .mxd a d, ρ => do
    match ← ev a ρ with
    | .lst xs => match intsOf xs with
      | some (n :: ns) => pure (.int (maxI n ns))
      | some [] => pure (.int d)
      | none => M.stk
    | _ => M.stk
def evs : Exs → List Sl → M (List D)
  | .nil, _ => pure []
  | .cons e es, ρ => do
    let d ← ev e ρ
    let ds ← evs es ρ
    pure (d :: ds)
def evAnd : Exs → List Sl → M D
  | .nil, _ => M.stk
  | .cons e es, ρ => do
    let d ← ev e ρ
    match es with
    | .nil => pure d
    | .cons _ _ => do
      let k ← asB d
      if k = true then evAnd es ρ else pure (.bl false)
def evOr : Exs → List Sl → M D
  | .nil, _ => M.stk
  | .cons e es, ρ => do
    let d ← ev e ρ
    match es with
    | .nil => pure d
    | .cons _ _ => do
      let k ← asB d
      if k = true then pure (.bl true) else evOr es ρ
def evOp : Op → List Sl → M (Option Int)
  | .no, _ => pure none
  | .so e, ρ => do pure (some (← asI (← ev e ρ)))
def evC : Op → List Sl → M Bool
  | .no, _ => pure true
  | .so e, ρ => do asB (← ev e ρ)
def evIt : It → List Sl → M (List D)
  | .of e, ρ => do itemsD (← ev e ρ)
  | .rng es, ρ => do rngOf (← evs es ρ)
  | .enu e, ρ => do pure (enumFrom' 0 (← itemsD (← ev e ρ)))
  | .zip a b, ρ => do
    let x ← ev a ρ
    let y ← ev b ρ
    zip2 x y
  | .rev e, ρ => do pure (← seqD (← ev e ρ)).reverse
end

/-! ### the slots that a term reads -/
mutual
def Tg.ws : Tg → List Nat
  | .nm i => [i]
  | .tp ts => ts.ws
def Tgs.ws : Tgs → List Nat
  | .nil => []
  | .cons t ts => t.ws ++ ts.ws
end
mutual
def Ex.vs : Ex → List Nat
  | .var i => [i]
  | .con _ | .glo _ _ | .dic _ => []
  | .bin _ a b | .cmp _ a b | .sub a b => a.vs ++ b.vs
  | .neg a | .nt a | .rvs a | .isi a _ _ => a.vs
  | .cmp2 _ _ a b c | .ite a b c => a.vs ++ (b.vs ++ c.vs)
  | .cmp3 _ _ _ a b c d => a.vs ++ (b.vs ++ (c.vs ++ d.vs))
  | .and es | .or es | .tup es | .lst es | .call _ _ es | .blt _ es => es.vs
  | .slc a lo hi => a.vs ++ (lo.vs ++ hi.vs)
  | .met _ a es => a.vs ++ es.vs
  | .comp _ it c e own | .ssc _ it c e own => it.vs ++ (c.vs ++ e.vs).filter fun i => !(own.map (·.2)).contains i
  | .keyl i _ => [i]
  | .mxd a _ => a.vs
def Exs.vs : Exs → List Nat
  | .nil => []
  | .cons e es => e.vs ++ es.vs
def Op.vs : Op → List Nat
  | .no => []
  | .so e => e.vs
def It.vs : It → List Nat
  | .of e | .enu e | .rev e => e.vs
  | .rng es => es.vs
  | .zip a b => a.vs ++ b.vs
end
/-- 1: a list or dict that the value is, is a new one; 2: those within, too -/
def Ex.fresh : Ex → Nat
  | .lst _ | .dic _ | .bin _ _ _ | .ssc _ _ _ _ _ | .keyl _ _ => 1
  | .comp _ _ _ e _ => if e.fresh = 0 then 1 else 2
  | .blt .list _ | .blt .sorted _ => 1
  | _ => 0

/-! ### except suites -/
mutual
/-- values of a suite -/
inductive HE where
  | con (c : Const)
  | at (f : Str)
  | isi (ns : List Str) (one : Bool)
  | tup (es : HEs)
inductive HEs where
  | nil
  | cons (e : HE) (es : HEs)
end
mutual
/-- tests of a suite -/
inductive HT where
  | isi (ns : List Str) (one : Bool)
  | nt (a : HT)
  | and (ts : HTs)
  | or (ts : HTs)
inductive HTs where
  | nil
  | cons (t : HT) (ts : HTs)
end
inductive HS where
  | ret (e : HE)
  | ife (t : HT) (a : HE) (r : HS)
def lookE (f : Str) : List (List Nat) → List D → Option D
  | n :: ns, d :: ds => if f = S n then some d else lookE f ns ds
  | _, _ => none
def conE : Const → Option D
  | .none => some .non
  | .bool b => some (.bl b)
  | .int i => some (.int i)
  | .str s => some (.str s.cps.toList)
  | _ => none
mutual
def hv (anc : List Str) (e : Er) : HE → Option D
  | .con c => conE c
  | .at f => lookE f e.nms e.args
  | .isi ns _ => some (.bl (ns.any fun n => anc.contains n))
  | .tup es => (hvs anc e es).map .tup
def hvs (anc : List Str) (e : Er) : HEs → Option (List D)
  | .nil => some []
  | .cons a es => (hv anc e a).bind fun d => (hvs anc e es).map (d :: ·)
end
mutual
def ht (anc : List Str) : HT → Bool
  | .isi ns _ => ns.any fun n => anc.contains n
  | .nt a => !ht anc a
  | .and ts => htA anc ts
  | .or ts => htO anc ts
def htA (anc : List Str) : HTs → Bool
  | .nil => true
  | .cons t ts => ht anc t && htA anc ts
def htO (anc : List Str) : HTs → Bool
  | .nil => false
  | .cons t ts => ht anc t || htO anc ts
end
def hs (anc : List Str) (e : Er) : HS → Option D
  | .ret a => hv anc e a
  | .ife t a r => if ht anc t = true then hv anc e a else hs anc e r
mutual
def HE.ns : HE → List Str
  | .isi ns _ => ns
  | .tup es => es.ns
  | _ => []
def HEs.ns : HEs → List Str
  | .nil => []
  | .cons e es => e.ns ++ es.ns
end
mutual
def HE.ats : HE → List Str
  | .at f => [f]
  | .tup es => es.ats
  | _ => []
def HEs.ats : HEs → List Str
  | .nil => []
  | .cons e es => e.ats ++ es.ats
end
mutual
def HT.ns : HT → List Str
  | .isi ns _ => ns
  | .nt a => a.ns
  | .and ts | .or ts => ts.ns
def HTs.ns : HTs → List Str
  | .nil => []
  | .cons e es => e.ns ++ es.ns
end
def HS.ns : HS → List Str
  | .ret a => a.ns
  | .ife t a r => t.ns ++ (a.ns ++ r.ns)
def HS.ats : HS → List Str
  | .ret a => a.ats
  | .ife _ a r => a.ats ++ r.ats

/-! ### statements -/
mutual
inductive St where
  | set (k : Nat) (i : Nat) (e : Ex)
  | unp (ts : Tgs) (e : Ex)
  | aug (i : Nat) (o : Operator) (e : Ex)
  | app (i : Nat) (e : Ex)
  | sti (i : Nat) (k e : Ex)
  | exp (e : Ex)
  | ret (e : Ex)
  | ife (c : Ex) (a b : Sts)
  | whl (c : Ex) (b : Sts)
  | for_ (tg : Tg) (it : It) (b : Sts)
  | apk (i : Nat) (k e : Ex)
  | stf (i : Nat) (k e : Ex)
  | st2 (i : Nat) (k j e : Ex)
  | rse (x : Str) (nms : List Str) (es : Exs)
  | tr (b : Sts) (x : Str) (i : Option Nat) (h : HS) (tab : List (Str × List Str))
  | brk
  | cnt
  | pas
inductive Sts where
  | nil
  | cons (s : St) (ss : Sts)
end
inductive Out where
  | nx (ρ : List Sl) | rt (d : D) | bk (ρ : List Sl) | ct (ρ : List Sl) | ex (e : Er) (ρ : List Sl)
/-- go on with what m tells; what it raises is an end at ρ -/
def lif {α : Type} (m : M α) (ρ : List Sl) (k : α → M Out) : M Out := fun g => match m g with
  | .ok a g' => k a g'
  | .err e g' => .ok (.ex e ρ) g'
  | .stuck => .stuck
@[simp] theorem lif_pure {α : Type} (a : α) (ρ : List Sl) (k : α → M Out) : lif (pure a) ρ k = k a := rfl
@[simp] theorem lif_stk {α : Type} (ρ : List Sl) (k : α → M Out) : lif (M.stk : M α) ρ k = M.stk := rfl
@[simp] theorem lif_thr {α : Type} (e : Er) (ρ : List Sl) (k : α → M Out) : lif (M.thr e : M α) ρ k = pure (.ex e ρ) := rfl
theorem lif_bind {α β : Type} (m : M α) (f : α → M β) (ρ : List Sl) (k : β → M Out) : lif (m >>= f) ρ k = lif m ρ fun a => lif (f a) ρ k := by
  funext g
  show (match M.bnd m f g with
    | .ok a g' => k a g'
    | .err e g' => .ok (.ex e ρ) g'
    | .stuck => .stuck) = _
  unfold lif M.bnd
  cases m g <;> rfl
/-- no slot among vs is owned -/
def noOwn (ρ : List Sl) (vs : List Nat) : Bool := vs.all fun i => match ρ[i]? with
  | some (.own _) | some (.ow2 _) => false
  | _ => true
def frz1 (ρ : List Sl) (i : Nat) : List Sl := match ρ[i]? with
  | some (.own d) | some (.ow2 d) => ρ.set i (.val d)
  | _ => ρ
def frz : List Sl → List Nat → List Sl
  | ρ, [] => ρ
  | ρ, v :: vs => frz (frz1 ρ v) vs
/-- the state in which what e gave may be kept -/
def shr (ρ : List Sl) (vs : List Nat) (p : Bool) : List Sl := if (noOwn ρ vs || p) = true then ρ else frz ρ vs
def fuel : Nat := 1000000
def whlL (c : List Sl → M Bool) (b : List Sl → M Out) : Nat → List Sl → M Out
  | 0, _ => M.stk
  | n + 1, ρ => lif (c ρ) ρ fun k =>
    if k = true then do
      match ← b ρ with
      | .nx ρ' | .ct ρ' => whlL c b n ρ'
      | .bk ρ' => pure (.nx ρ')
      | o => pure o
    else pure (.nx ρ)
def forL (b : D → List Sl → M Out) : List D → List Sl → M Out
  | [], ρ => pure (.nx ρ)
  | d :: ds, ρ => do
    match ← b d ρ with
    | .nx ρ' | .ct ρ' => forL b ds ρ'
    | .bk ρ' => pure (.nx ρ')
    | o => pure o
def It.isR : It → Bool
  | .rng _ => true
  | _ => false
/-- the slots that a walk locks -/
def It.lk : It → List Nat
  | .rng _ => []
  | it => it.vs
def appD (ρ : List Sl) (i : Nat) (d : D) : M Out := match ρ[i]? with
  | some (.own (.lst xs)) => grd (decide (xs.length < line)) (pure (.nx (ρ.set i (.own (.lst (xs ++ [d]))))))
  | _ => M.stk
def stiD (ρ : List Sl) (i : Nat) (q d : D) : M Out := match ρ[i]? with
  | some (.own (.lst xs)) => match q with
    | .int j => match ixN xs.length j with
      | some n => pure (.nx (ρ.set i (.own (.lst (xs.set n d)))))
      | none => M.stk
    | _ => M.stk
  | some (.own (.dK ks vs)) => match kyOf q with
    | some k => grd (decide (ks.length < line)) (pure (.nx (ρ.set i (.own (.dK (putA k d ks vs).1 (putA k d ks vs).2)))))
    | none => M.stk
  | some (.own (.dT ks vs)) => match kyT q with
    | some k => grd (decide (ks.length < line)) (pure (.nx (ρ.set i (.own (.dT (putA k d ks vs).1 (putA k d ks vs).2)))))
    | none => M.stk
  | _ => M.stk
def idxA {α : Type} [DecidableEq α] (k : α) : List α → Option Nat
  | [] => none
  | a :: as => if a = k then some 0 else (idxA k as).map (· + 1)
/-- the place of a child -/
def kidIx : D → D → Option Nat
  | .lst xs, .int j => ixN xs.length j
  | .dK ks _, q => (kyOf q).bind fun k => idxA k ks
  | _, _ => none
def D.setKid : D → Nat → D → D
  | .lst xs, n, x => .lst (xs.set n x)
  | .dK ks vs, n, x => .dK ks (vs.set n x)
  | d, _, _ => d
/-- a child is put in -/
def putKid : D → D → D → Option D
  | .lst xs, .int j, x => (ixN xs.length j).map fun n => .lst (xs.set n x)
  | .dK ks vs, q, x => (kyOf q).bind fun k => if memA k ks = true then none else some (.dK (ks ++ [k]) (vs ++ [x]))
  | _, _, _ => none
def apkD (ρ : List Sl) (i n : Nat) (ys : List D) (x : D) : M Out := match ρ[i]? with
  | some (.ow2 d) => grd (decide (ys.length < line)) (pure (.nx (ρ.set i (.ow2 (d.setKid n (.lst (ys ++ [x])))))))
  | _ => M.stk
def st2D (ρ : List Sl) (i n : Nat) (ys : List D) (q x : D) : M Out := match ρ[i]? with
  | some (.ow2 d) => match q with
    | .int j => match ixN ys.length j with
      | some m => pure (.nx (ρ.set i (.ow2 (d.setKid n (.lst (ys.set m x))))))
      | none => M.stk
    | _ => M.stk
  | _ => M.stk
/-- the list that is the child at the place q -/
def kidL (d q : D) (k : Nat → List D → M Out) : M Out := match kidIx d q with
  | some n => match d.kids[n]? with
    | some (.lst ys) => k n ys
    | _ => M.stk
  | none => M.stk
/-- what is done with what the body of a try tells -/
def tryE (x : Str) (h : HS) (tab : List (Str × List Str)) : Out → M Out
  | .ex e ρ => match tab.lookup (S e.cls) with
    | some anc => if anc.contains x = true then (match hs anc e h with
        | some d => pure (.rt d)
        | none => M.stk) else pure (.ex e ρ)
    | none => M.stk
  | u => pure u
/-- a op= y -/
def augD : Operator → Int → D → Option D
  | .Add, a, .int b => some (.int (a + b))
  | .Sub, a, .int b => some (.int (a - b))
  | _, _, _ => none
mutual
def exS : St → List Sl → M Out
  | .set 0 i e, ρ => lif (ev e ρ) ρ fun d => pure (.nx ((shr ρ e.vs d.pure).set i (.val d)))
  | .set 1 i e, ρ => lif (ev e ρ) ρ fun d => grd (decide (1 ≤ e.fresh) && (isCont d && D.pureL d.kids)) (pure (.nx (ρ.set i (.own d))))
  | .set (_ + 2) i e, ρ => lif (ev e ρ) ρ fun d => grd (decide (1 ≤ e.fresh) && (isCont d && (d.kids.isEmpty || (decide (2 ≤ e.fresh) && (d.kids.all isCont && d.kids.all fun x => D.pureL x.kids))))) (pure (.nx (ρ.set i (.ow2 d))))
  | .unp ts e, ρ => lif (ev e ρ) ρ fun d => do pure (.nx (← bindT (.tp ts) d (shr ρ e.vs d.pure)))
  | .aug i o e, ρ => match vget ρ i with
    | some (.int a) => lif (ev e ρ) ρ fun y => match augD o a y with
      | some z => pure (.nx (ρ.set i (.val z)))
      | none => M.stk
    | _ => M.stk
  | .app i e, ρ => match ρ[i]? with
    | some (.own (.lst _)) => lif (ev e ρ) ρ fun d => appD (shr ρ e.vs d.pure) i d
    | _ => M.stk
  | .sti i k e, ρ => match ρ[i]? with
    | some (.own _) => lif (ev e ρ) ρ fun d => lif (ev k ρ) ρ fun q => stiD (shr ρ e.vs d.pure) i q d
    | _ => M.stk
  | .apk i k e, ρ => match ρ[i]? with
    | some (.ow2 d) => lif (ev k ρ) ρ fun q => kidL d q fun n ys => lif (ev e ρ) ρ fun x => apkD (shr ρ e.vs x.pure) i n ys x
    | _ => M.stk
  | .stf i k e, ρ => match ρ[i]? with
    | some (.ow2 d) => lif (ev e ρ) ρ fun x => lif (ev k ρ) ρ fun q => grd (decide (1 ≤ e.fresh) && (isCont x && (D.pureL x.kids && decide (d.kids.length < line)))) (match putKid d q x with
      | some d' => pure (.nx (ρ.set i (.ow2 d')))
      | none => M.stk)
    | _ => M.stk
  | .st2 i k j e, ρ => match ρ[i]? with
    | some (.ow2 d) => lif (ev e ρ) ρ fun x => lif (ev k ρ) ρ fun q => kidL d q fun n ys => lif (ev j ρ) ρ fun jj => st2D (shr ρ e.vs x.pure) i n ys jj x
    | _ => M.stk
  | .rse x nms es, ρ => lif (evs es ρ) ρ fun ds => grd (decide (ds.length = nms.length)) (pure (.ex ⟨x.cps.toList, nms.map fun n => n.cps.toList, ds.reverse⟩ ρ))
  | .tr b x _ h tab, ρ => do tryE x h tab (← exSs b ρ)
  | .exp e, ρ => lif (ev e ρ) ρ fun _ => pure (.nx ρ)
  | .ret e, ρ => lif (ev e ρ) ρ fun d => pure (.rt d)
  | .ife c a b, ρ => lif (do asB (← ev c ρ)) ρ fun k => if k = true then exSs a ρ else exSs b ρ
  | .whl c b, ρ => whlL (fun ρ => do asB (← ev c ρ)) (fun ρ => exSs b ρ) fuel ρ
  | .for_ tg it b, ρ => lif (evIt it ρ) ρ fun ds => forL (fun d ρ => do exSs b (← bindT tg d ρ)) ds (frz ρ it.lk)
  | .brk, ρ => pure (.bk ρ)
  | .cnt, ρ => pure (.ct ρ)
  | .pas, ρ => pure (.nx ρ)
def exSs : Sts → List Sl → M Out
  | .nil, ρ => pure (.nx ρ)
  | .cons s ss, ρ => do
    match ← exS s ρ with
    | .nx ρ' => exSs ss ρ'
    | o => pure o
end
structure Fn where
  n : Nat
  m : Nat
  body : Sts
def run (f : Fn) : Sem := fun ds => if ds.length = f.n then do
    match ← exSs f.body (ds.map Sl.val ++ List.replicate (f.m - f.n) Sl.no) with
    | .rt d => pure d
    | .nx _ => pure .non
    | .ex e _ => M.thr e
    | _ => M.stk
  else M.stk
end TI
set_option Elab.async false
set_option linter.all false
set_option maxRecDepth 100000
set_option maxHeartbeats 4000000
/-! the operations are what the model does -/
namespace TI
open PySem PySem.Spec PyProof.Rows L2

structure Spc where
  r : Addr
  F : Addr → Prop
  At : G → Hp → Prop
  loc : ∀ {g : G} {H H' : Hp}, At g H → (∀ a o, F a → H a = some o → H' a = some o) → At g H'
  mu : ∀ {g : G} {H : Hp}, At g H → BOk F H

/-- neither raises nor changes the state -/
def Pr {α : Type} (m : M α) : Prop := ∀ g, (∃ a, m g = .ok a g) ∨ m g = .stuck
theorem Pr.pure {α : Type} {a : α} : Pr (pure a) := fun g => .inl ⟨a, rfl⟩
theorem Pr.ret {α : Type} {a : α} : Pr (Pure.pure a : M α) := fun g => .inl ⟨a, rfl⟩
theorem Pr.stk {α : Type} : Pr (M.stk : M α) := fun g => .inr rfl
theorem Pr.grd {α : Type} {c : Bool} {m : M α} (h : Pr m) : Pr (grd c m) := by
  unfold TI.grd
  split
  · exact h
  · exact .stk
theorem Pr.bind {α β : Type} {m : M α} {f : α → M β} (h : Pr m) (k : ∀ a, Pr (f a)) : Pr (m >>= f) := fun g => by
  show (∃ a, M.bnd m f g = _) ∨ M.bnd m f g = _
  rcases h g with ⟨a, e⟩ | e
  · simp only [M.bnd, e]; exact k a g
  · simp only [M.bnd, e]; exact .inr trivial
theorem Pr.opt {α : Type} {o : Option α} : Pr (opt o) := by
  cases o
  · exact .stk
  · exact .pure
theorem grd_ok {α : Type} {c : Bool} {m : M α} {g g' : G} {a : α} (h : grd c m g = .ok a g') : c = true ∧ m g = .ok a g' := by
  unfold grd at h
  split at h
  · exact ⟨by assumption, h⟩
  · cases h
theorem pure_ok {α : Type} {g g' : G} {a b : α} (h : (pure a : M α) g = .ok b g') : a = b ∧ g = g' := by
  have h : Res.ok a g = Res.ok b g' := h
  cases h; exact ⟨rfl, rfl⟩
theorem stk_ok {α : Type} {g g' : G} {b : α} (h : (M.stk : M α) g = .ok b g') : False := by
  have h : (Res.stuck : Res α) = Res.ok b g' := h
  cases h
theorem bind_ok {α β : Type} {m : M α} {f : α → M β} {g g' : G} {b : β} (h : (m >>= f) g = .ok b g') : ∃ a g1, m g = .ok a g1 ∧ f a g1 = .ok b g' := by
  have h : M.bnd m f g = .ok b g' := h
  unfold M.bnd at h
  cases e : m g with
  | ok a g1 => rw [e] at h; exact ⟨a, g1, rfl, h⟩
  | err _ _ => rw [e] at h; cases h
  | stuck => rw [e] at h; cases h
theorem opt_ok {α : Type} {o : Option α} {g g' : G} {b : α} (h : opt o g = .ok b g') : o = some b ∧ g = g' := by
  cases o with
  | none => exact (stk_ok (g := g) h).elim
  | some a => obtain ⟨rfl, e⟩ := pure_ok h; exact ⟨rfl, e⟩

/-! ### equality -/
mutual
theorem eqv_py : ∀ (a b : D), a.flat = true → b.flat = true → PyData.eqv a.py b.py = eqB a b
  | .non, b, _, hb => by cases b <;> first | rfl | (simp [D.flat] at hb; done)
  | .bl _, b, _, hb => by cases b <;> first | rfl | (simp [D.flat] at hb; done)
  | .int _, b, _, hb => by cases b <;> first | rfl | (simp [D.flat] at hb; done)
  | .str x, b, _, hb => by
    cases b with
    | str y =>
      show (S x == S y) = (x == y)
      by_cases e : x = y
      · subst e; simp
      · have : ¬ S x = S y := fun q => e (S_inj q)
        rw [beq_eq_false_iff_ne.mpr this, beq_eq_false_iff_ne.mpr e]
    | _ => first | rfl | (simp [D.flat] at hb; done)
  | .lst xs, b, ha, hb => by
    cases b with
    | lst ys => exact eqv_pyL xs ys (by simpa [D.flat] using ha) (by simpa [D.flat] using hb)
    | _ => first | rfl | (simp [D.flat] at hb; done)
  | .tup xs, b, ha, hb => by
    cases b with
    | tup ys => exact eqv_pyL xs ys (by simpa [D.flat] using ha) (by simpa [D.flat] using hb)
    | _ => first | rfl | (simp [D.flat] at hb; done)
  | .dK _ _, _, h, _ => by simp [D.flat] at h
  | .dT _ _, _, h, _ => by simp [D.flat] at h
  | .wel, _, h, _ => by simp [D.flat] at h
theorem eqv_pyL : ∀ (as bs : List D), D.flatL as = true → D.flatL bs = true → PyData.eqvAll (D.pyL as) (D.pyL bs) = eqL as bs
  | [], [], _, _ => rfl
  | [], _ :: _, _, _ => rfl
  | _ :: _, [], _, _ => rfl
  | a :: as, b :: bs, ha, hb => by
    simp only [D.flatL, Bool.and_eq_true] at ha hb
    simp only [D.pyL, PyData.eqvAll, eqL]
    rw [eqv_py a b ha.1 hb.1, eqv_pyL as bs ha.2 hb.2]
end
mutual
theorem plain_py : ∀ (a : D), a.flat = true → a.py.plain = true
  | .non, _ => rfl
  | .bl _, _ => rfl
  | .int _, _ => rfl
  | .str _, _ => rfl
  | .lst xs, h => by simp only [D.py, PyData.plain]; exact plain_pyL xs (by simpa [D.flat] using h)
  | .tup xs, h => by simp only [D.py, PyData.plain]; exact plain_pyL xs (by simpa [D.flat] using h)
  | .dK _ _, h => by simp [D.flat] at h
  | .dT _ _, h => by simp [D.flat] at h
  | .wel, h => by simp [D.flat] at h
theorem plain_pyL : ∀ (as : List D), D.flatL as = true → PyData.plainAll (D.pyL as) = true
  | [], _ => rfl
  | a :: as, h => by
    simp only [D.flatL, Bool.and_eq_true] at h
    simp only [D.pyL, PyData.plainAll, plain_py a h.1, plain_pyL as h.2, Bool.and_self]
end
mutual
theorem dep_py : ∀ (a : D), a.flat = true → a.py.depth = a.dep
  | .non, _ => rfl
  | .bl _, _ => rfl
  | .int _, _ => rfl
  | .str _, _ => rfl
  | .lst xs, h => by simp only [D.py, PyData.depth, D.dep]; rw [dep_pyL xs (by simpa [D.flat] using h)]
  | .tup xs, h => by simp only [D.py, PyData.depth, D.dep]; rw [dep_pyL xs (by simpa [D.flat] using h)]
  | .dK _ _, h => by simp [D.flat] at h
  | .dT _ _, h => by simp [D.flat] at h
  | .wel, h => by simp [D.flat] at h
theorem dep_pyL : ∀ (as : List D), D.flatL as = true → PyData.depthAll (D.pyL as) = D.depL as
  | [], _ => rfl
  | a :: as, h => by
    simp only [D.flatL, Bool.and_eq_true] at h
    simp only [D.pyL, PyData.depthAll, D.depL, dep_py a h.1, dep_pyL as h.2]
end
section
variable {K : PySem.W.Frag} {r : Addr} {H : Hp} {B : Addr → Prop}
mutual
theorem Den.dp : ∀ (d : D) (v : V), d.flat = true → Den K r H B v d → Dp K H v d.py
  | .non, _, _, h => by cases h; exact .non
  | .bl _, _, _, h => by cases h; exact .bl _
  | .int _, _, _, h => by cases h; exact .int _
  | .str _, _, _, h => by cases h; exact .str _
  | .lst ds, _, p, h => by
    cases h with
    | lst h1 _ h2 => exact .lst (SqL.of h1) (DenL.dp ds _ (by simpa [D.flat] using p) h2)
  | .tup ds, _, p, h => by
    cases h with
    | tup h1 h2 => exact .tup (SqT.of h1) (DenL.dp ds _ (by simpa [D.flat] using p) h2)
  | .dK _ _, _, p, _ => by simp [D.flat] at p
  | .dT _ _, _, p, _ => by simp [D.flat] at p
  | .wel, _, p, _ => by simp [D.flat] at p
theorem DenL.dp : ∀ (ds : List D) (vs : List V), D.flatL ds = true → DenL K r H B vs ds → DpAll K H vs (D.pyL ds)
  | [], _, _, h => by cases h; exact .nil
  | d :: ds, _, p, h => by
    simp only [D.flatL, Bool.and_eq_true] at p
    cases h with
    | cons h1 h2 => exact .cons (Den.dp d _ p.1 h1) (DenL.dp ds _ p.2 h2)
end
end
theorem cmpOk_iff {d : D} (h : d.cmpOk = true) : d.flat = true ∧ d.dep ≤ 60 := by
  unfold D.cmpOk at h
  simpa using h

/-- by values: a test of two -/
def rT2 (K : PySem.W.Frag) (Z : Spc) (f : D → D → M Bool) : R2 := fun x y H Q => ∃ B d1 d2 b g, Den K Z.r H B x d1 ∧ Den K Z.r H B y d2 ∧ f d1 d2 g = .ok b g ∧ Q (.bl b) H
/-- by values: an operation of two -/
def rV2 (K : PySem.W.Frag) (Z : Spc) (f : D → D → M D) : R2 := fun x y H Q => ∃ B d1 d2 d g, Den K Z.r H B x d1 ∧ Den K Z.r H B y d2 ∧ BOk B H ∧ f d1 d2 g = .ok d g ∧ ∀ v H', Same H H' → Den K Z.r H' B v d → Q v H'
/-- .. a list that it gives is a new one -/
def rV2f (K : PySem.W.Frag) (Z : Spc) (f : D → D → M D) : R2 := fun x y H Q => ∃ B d1 d2 d g, Den K Z.r H B x d1 ∧ Den K Z.r H B y d2 ∧ BOk B H ∧ f d1 d2 g = .ok d g ∧ ∀ v H', Same H H' → Den K Z.r H' B v d → (isCont d = true → ∃ p, v = .ref p ∧ H p = none) → Q v H'
theorem same_upd {H : Hp} {p : Addr} {o : HO} (h : H p = none) : Same H (upd H p o) := fun b x e => by
  rw [upd_ne (ne_of_none e h)]
  exact e
theorem sameFr {H H' : Hp} {B : Addr → Prop} (h : Same H H') : Fr B H H' := fun a o e _ => h a o e

section
variable {X : Cx} {Z : Spc}
theorem eq_run {pins : List (Addr × Obj)} {s : Shared} {σ : L2.St} {H : Hp} {B : Addr → Prop} {x y : V} {v u : Value} {a b : D} {Q : Value → Shared → Prop} {E : Value → Shared → Prop} (hu : X.A.units + 64 < cLine) (I : Inv X pins σ H s) (rx : RelV x v) (ry : RelV y u)
    (ha : Den X.K Z.r H B x a) (hb : Den X.K Z.r H B y b) (oa : a.cmpOk = true) (ob : b.cmpOk = true) (q : Q (.bool (eqB a b)) s) : wpAny (model X.prog X.w) X.A (compareOp .Eq v u) Q E s := by
  obtain ⟨f1, p1⟩ := cmpOk_iff oa
  obtain ⟨f2, p2⟩ := cmpOk_iff ob
  obtain ⟨as, r1⟩ := Dp.reads I _ x v (Den.dp a x f1 ha) rx
  obtain ⟨bs, r2⟩ := Dp.reads I _ y u (Den.dp b y f2 hb) ry
  refine SeqAt.eq_plain (da := a.py) (db := b.py) (as := as) (bs := bs) r1 r2 (plain_py a f1) (plain_py b f2) ?_ ?_
  · rw [dep_py a f1]
    have := Nat.min_le_left a.dep b.py.depth
    omega
  · rw [eqv_py a b f1 f2]; exact q
end
end TI
set_option Elab.async false
set_option linter.all false
set_option maxRecDepth 100000
set_option maxHeartbeats 4000000
namespace TI
open PySem PySem.Spec PyProof.Rows L2
theorem str_eq {x : Str} {s : List Nat} (h : x = S s) : x.cps.toList = s := by rw [h, S_cps]
theorem cutS_cut (s : List Nat) (lo hi : Option Int) : cutS (S s) lo hi = S (cutL s lo hi) := by
  unfold cutS cutL S
  simp [Str.length]
theorem cutV_eq (xs : List V) (lo hi : Option Int) : cutV xs lo hi = cutL xs lo hi := rfl
theorem DenL.cut {K : PySem.W.Frag} {r : Addr} {H : Hp} {B : Addr → Prop} {vs : List V} {ds : List D} (h : DenL K r H B vs ds) (lo hi : Option Int) : DenL K r H B (cutL vs lo hi) (cutL ds lo hi) := by
  unfold cutL
  rw [h.length]
  exact (h.drop _).take _
theorem atI_den {K : PySem.W.Frag} {r : Addr} {H : Hp} {B : Addr → Prop} {vs : List V} {ds : List D} (h : DenL K r H B vs ds) {i : Int} {d : D} (e : atI ds i = some d) : ∃ v, atI vs i = some v ∧ Den K r H B v d := by
  unfold atI at e ⊢
  rw [h.length]
  cases q : ixN ds.length i with
  | none => rw [q] at e; cases e
  | some j =>
    rw [q] at e
    exact h.get e
theorem sqT_tup {K : PySem.W.Frag} {r : Addr} {H : Hp} {B : Addr → Prop} {v : V} {ds : List D} (h : Den K r H B v (.tup ds)) : ∃ a vs, v = .ref a ∧ H a = some (.tup vs) ∧ DenL K r H B vs ds := by
  cases h with
  | tup h1 h2 => exact ⟨_, _, rfl, h1, h2⟩
theorem lst_of {K : PySem.W.Frag} {r : Addr} {H : Hp} {B : Addr → Prop} {v : V} {ds : List D} (h : Den K r H B v (.lst ds)) : ∃ a vs, v = .ref a ∧ H a = some (.lst vs) ∧ ¬ B a ∧ DenL K r H B vs ds := by
  cases h with
  | lst h1 n h2 => exact ⟨_, _, rfl, h1, n, h2⟩
/-- a new tuple, a new list -/
theorem den_newT {K : PySem.W.Frag} {r : Addr} {H : Hp} {B : Addr → Prop} {p : Addr} {vs : List V} {ds : List D} (bk : BOk B H) (np : H p = none) (h : DenL K r H B vs ds) : Den K r (upd H p (.tup vs)) B (.ref p) (.tup ds) :=
  .tup upd_same (DenL.fr (sameFr (same_upd np)) bk _ _ h)
theorem not_B {H : Hp} {B : Addr → Prop} {p : Addr} (bk : BOk B H) (np : H p = none) : ¬ B p := fun b => by
  obtain ⟨o, e, _⟩ := bk p b
  rw [np] at e; cases e
theorem den_newL {K : PySem.W.Frag} {r : Addr} {H : Hp} {B : Addr → Prop} {p : Addr} {vs : List V} {ds : List D} (bk : BOk B H) (np : H p = none) (h : DenL K r H B vs ds) : Den K r (upd H p (.lst vs)) B (.ref p) (.lst ds) :=
  .lst upd_same (not_B bk np) (DenL.fr (sameFr (same_upd np)) bk _ _ h)

section
variable {X : Cx} {Z : Spc}
theorem opr_bin (o : Operator) : OpR X (binaryOp o) (rV2f X.K Z (binD o)) := by
  intro pins s σ H x y v u Q I rx ry h
  obtain ⟨B, d1, d2, d, g, h1, h2, bk, e, q⟩ := h
  unfold binD at e
  split at e
  case h_1 i j =>
    cases h1; cases h2
    obtain ⟨rfl, _⟩ := pure_ok e
    exact op_add pins s σ H _ _ v u Q I rx ry ⟨_, _, rfl, rfl, q _ _ (Same.refl H) (.int _) nofun⟩
  case h_2 a b =>
    cases h1; cases h2
    obtain ⟨c, e⟩ := grd_ok e
    obtain ⟨rfl, _⟩ := pure_ok e
    have c := of_decide_eq_true c
    rw [line_eq] at c
    exact op_add_str pins s σ H _ _ v u Q I rx ry ⟨_, _, rfl, rfl, by rw [S_len, S_len]; exact c, q _ _ (Same.refl H) (by rw [S_app]; exact .str _) nofun⟩
  case h_3 xs ys =>
    obtain ⟨a, vs, rfl, e1, n1, l1⟩ := lst_of h1
    obtain ⟨b, ws, rfl, e2, n2, l2⟩ := lst_of h2
    obtain ⟨c, e⟩ := grd_ok e
    obtain ⟨rfl, _⟩ := pure_ok e
    have c := of_decide_eq_true c
    rw [line_eq] at c
    exact op_cat pins s σ H _ _ v u Q I rx ry ⟨_, _, _, _, rfl, rfl, e1, e2, by rw [l1.length, l2.length]; exact c, fun p np => q _ _ (same_upd np) (den_newL bk np (l1.append l2)) fun _ => ⟨p, rfl, np⟩⟩
  case h_4 xs ys =>
    obtain ⟨a, vs, rfl, e1, l1⟩ := sqT_tup h1
    obtain ⟨b, ws, rfl, e2, l2⟩ := sqT_tup h2
    obtain ⟨c, e⟩ := grd_ok e
    obtain ⟨rfl, _⟩ := pure_ok e
    have c := of_decide_eq_true c
    rw [line_eq] at c
    refine op_catA pins s σ H _ _ v u Q I rx ry ⟨_, _, _, _, rfl, rfl, SqT.of e1, SqT.of e2, by rw [l1.length, l2.length]; exact c, fun z => ?_, fun _ z => ?_, fun _ _ p np => ?_⟩
    · subst z
      cases l1
      exact q _ _ (Same.refl H) (.tup e2 l2) nofun
    · subst z
      cases l2
      rw [List.append_nil] at q
      exact q _ _ (Same.refl H) (.tup e1 l1) nofun
    · exact q _ _ (same_upd np) (den_newT bk np (l1.append l2)) nofun
  case h_5 i j =>
    cases h1; cases h2
    obtain ⟨rfl, _⟩ := pure_ok e
    exact op_sub pins s σ H _ _ v u Q I rx ry ⟨_, _, rfl, rfl, q _ _ (Same.refl H) (.int _) nofun⟩
  case h_6 i j =>
    cases h1; cases h2
    obtain ⟨c, e⟩ := grd_ok e
    obtain ⟨rfl, _⟩ := pure_ok e
    unfold cmulB at c
    rw [Bool.or_eq_true, decide_eq_true_eq, decide_eq_true_eq] at c
    exact op_mul pins s σ H _ _ v u Q I rx ry ⟨_, _, rfl, rfl, c, q _ _ (Same.refl H) (.int _) nofun⟩
  case h_7 xs k =>
    obtain ⟨a, vs, rfl, e1, n1, l1⟩ := lst_of h1
    cases h2
    obtain ⟨c, e⟩ := grd_ok e
    obtain ⟨rfl, _⟩ := pure_ok e
    have c := of_decide_eq_true c
    rw [line_eq] at c
    exact op_rep pins s σ H _ _ v u Q I rx ry ⟨_, _, _, rfl, rfl, e1, c.1, c.2.1, by rw [l1.length]; exact c.2.2, fun p np => q _ _ (same_upd np) (den_newL bk np (l1.rep _)) fun _ => ⟨p, rfl, np⟩⟩
  case h_8 i j =>
    cases h1; cases h2
    obtain ⟨c, e⟩ := grd_ok e
    obtain ⟨rfl, _⟩ := pure_ok e
    exact op_fdiv pins s σ H _ _ v u Q I rx ry ⟨_, _, rfl, rfl, (by simpa using c : _ ∧ _), q _ _ (Same.refl H) (.int _) nofun⟩
  case h_9 i j =>
    cases h1; cases h2
    obtain ⟨c, e⟩ := grd_ok e
    obtain ⟨rfl, _⟩ := pure_ok e
    exact op_mod pins s σ H _ _ v u Q I rx ry ⟨_, _, rfl, rfl, of_decide_eq_true c, q _ _ (Same.refl H) (.int _) nofun⟩
  case h_10 i j =>
    cases h1; cases h2
    obtain ⟨c, e⟩ := grd_ok e
    obtain ⟨rfl, _⟩ := pure_ok e
    exact op_pow pins s σ H _ _ v u Q I rx ry ⟨_, _, rfl, rfl, (show CPow i j from by unfold cpowB at c; unfold CPow; exact of_decide_eq_true c), q _ _ (Same.refl H) (.int _) nofun⟩
  case h_11 i j =>
    cases h1; cases h2
    obtain ⟨c, e⟩ := grd_ok e
    obtain ⟨rfl, _⟩ := pure_ok e
    exact op_shr pins s σ H _ _ v u Q I rx ry ⟨_, _, rfl, rfl, of_decide_eq_true c, q _ _ (Same.refl H) (.int _) nofun⟩
  case h_12 i j =>
    cases h1; cases h2
    obtain ⟨rfl, _⟩ := pure_ok e
    exact op_xor pins s σ H _ _ v u Q I rx ry ⟨_, _, rfl, rfl, q _ _ (Same.refl H) (.int _) nofun⟩
  case h_13 => exact (stk_ok e).elim

/-! ### in -/
theorem hasSub_iff (b : List Nat) : ∀ a : List Nat, hasSub b a = true ↔ ∃ i, i ≤ a.length ∧ b.isPrefixOf (a.drop i) = true
  | [] => by
    unfold hasSub
    constructor
    · intro h
      refine ⟨0, Nat.le_refl _, ?_⟩
      cases b <;> simp_all
    · rintro ⟨i, hi, h⟩
      cases b with
      | nil => rfl
      | cons x xs => simp at h
  | c :: a => by
    unfold hasSub
    rw [Bool.or_eq_true, hasSub_iff b a]
    constructor
    · rintro (h | ⟨i, hi, h⟩)
      · exact ⟨0, Nat.zero_le _, h⟩
      · exact ⟨i + 1, by simpa using hi, by simpa using h⟩
    · rintro ⟨i, hi, h⟩
      cases i with
      | zero => exact .inl h
      | succ i => exact .inr ⟨i, by simpa using hi, by simpa using h⟩
theorem pre_take (y : List Nat) : ∀ l : List Nat, (l.take y.length == y) = y.isPrefixOf l := fun l => by
  rw [Bool.eq_iff_iff, beq_iff_eq, List.isPrefixOf_iff_prefix, List.prefix_iff_eq_take]
  exact eq_comm
theorem subAt_iff (x y : Str) (i : Nat) : Builtin.Str.subAt x y i = y.cps.toList.isPrefixOf (x.cps.toList.drop i) := by
  rw [PySem.StrLaws.subAt_eq, ← pre_take]
  rfl
theorem in_S (s t : List Nat) : (!(Builtin.Str.occurrences (S t) (S s) 0 (S t).length 1).isEmpty) = hasSub s t := by
  rw [Bool.eq_iff_iff, PySem.StrLaws.found_iff, hasSub_iff]
  constructor
  · rintro ⟨i, h, e⟩
    rw [subAt_iff, S_cps, S_cps] at e
    rw [S_len, S_len] at h
    exact ⟨i, by omega, e⟩
  · rintro ⟨i, h, e⟩
    refine ⟨i, ?_, by rw [subAt_iff, S_cps, S_cps]; exact e⟩
    rw [S_len, S_len]
    have := (List.isPrefixOf_iff_prefix.mp e).length_le
    rw [List.length_drop] at this
    omega
theorem ltS_lt : ∀ a b : List Nat, ltS a b = decide (a < b)
  | [], [] => by simp [ltS]
  | [], _ :: _ => by simp [ltS]
  | _ :: _, [] => by simp [ltS]
  | x :: xs, y :: ys => by
    simp only [ltS]
    by_cases e : x = y
    · subst e
      rw [if_pos rfl, ltS_lt xs ys]
      simp [List.cons_lt_cons_iff]
    · rw [if_neg e]
      simp [List.cons_lt_cons_iff, e]

/-! ### dicts by trees -/
theorem kyOf_den {K : PySem.W.Frag} {r : Addr} {H : Hp} {B : Addr → Prop} {v : V} {d : D} {k : Ky} (h : Den K r H B v d) (e : kyOf d = some k) : v = kV k.k := by
  unfold kyOf at e
  split at e
  · cases h; cases e; rfl
  · cases h; cases e; rfl
  · cases e
theorem kyL_den {K : PySem.W.Frag} {r : Addr} {H : Hp} {B : Addr → Prop} : ∀ {vs : List V} {ds : List D} {ks : List Ky}, DenL K r H B vs ds → kyL ds = some ks → vs = (ks.map Ky.k).map kV
  | _, [], _, h, e => by cases h; cases e; rfl
  | _, d :: ds, ks, h, e => by
    cases h with
    | cons h1 h2 =>
      simp only [kyL] at e
      split at e
      · rename_i k ks' e1 e2
        cases e
        rw [kyOf_den h1 e1, kyL_den h2 e2]
        rfl
      · cases e
theorem kyT_den {K : PySem.W.Frag} {r : Addr} {H : Hp} {B : Addr → Prop} {v : V} {d : D} {k : List Ky} (h : Den K r H B v d) (e : kyT d = some k) : ∃ a, v = .ref a ∧ H a = some (.tup ((k.map Ky.k).map kV)) := by
  unfold kyT at e
  split at e
  · obtain ⟨a, vs, rfl, h1, h2⟩ := sqT_tup h
    rw [kyL_den h2 e] at h1
    exact ⟨a, rfl, h1⟩
  · cases e
theorem map_k_inj : ∀ {a b : List Ky}, a.map Ky.k = b.map Ky.k → a = b
  | [], [], _ => rfl
  | [], _ :: _, h => by simp at h
  | _ :: _, [], h => by simp at h
  | x :: xs, y :: ys, h => by
    simp only [List.map_cons, List.cons.injEq] at h
    rw [Ky.k_inj h.1, map_k_inj h.2]
section
variable {K : PySem.W.Frag} {r : Addr} {H : Hp} {B : Addr → Prop} {κ α : Type} [DecidableEq κ] [DecidableEq α] {f : α → κ} (inj : ∀ {a b : α}, f a = f b → a = b)
include inj
theorem lookA_den {k : α} : ∀ {kvs : List (κ × V)} {ks : List α} {ds : List D}, kvs.map (·.1) = ks.map f → DenL K r H B (kvs.map (·.2)) ds →
    match lookA k ks ds with
    | some d => ∃ v, valV kvs (f k) = some v ∧ Den K r H B v d
    | none => valV kvs (f k) = none
  | [], [], _, _, h => by cases h; exact valV_nil
  | [], _ :: _, _, e, _ => by simp at e
  | _ :: _, [], _, e, _ => by simp at e
  | kv :: kvs, a :: ks, [], _, h => by cases h
  | kv :: kvs, a :: ks, d :: ds, e, h => by
    simp only [List.map_cons, List.cons.injEq] at e
    cases h with
    | cons h1 h2 =>
      simp only [lookA]
      by_cases q : a = k
      · subst q
        rw [if_pos rfl]
        exact ⟨kv.2, valV_pos e.1, h1⟩
      · rw [if_neg q]
        have ih := lookA_den (k := k) e.2 h2
        have ne : ¬ kv.1 = f k := fun z => q (inj (e.1.symm.trans z))
        rw [valV_neg ne]
        exact ih
theorem in_den {k : α} : ∀ {kvs : List (κ × V)} {ks : List α}, kvs.map (·.1) = ks.map f → (valV kvs (f k)).isSome = memA k ks
  | [], [], _ => rfl
  | [], _ :: _, e => by simp at e
  | _ :: _, [], e => by simp at e
  | kv :: kvs, a :: ks, e => by
    simp only [List.map_cons, List.cons.injEq] at e
    unfold memA
    rw [List.any_cons]
    by_cases q : a = k
    · subst q
      rw [valV_pos e.1, decide_eq_true rfl]
      rfl
    · have ne : ¬ kv.1 = f k := fun z => q (inj (e.1.symm.trans z))
      rw [valV_neg ne, decide_eq_false q, Bool.false_or]
      exact in_den e.2
end

/-- isinstance, in: what is asked -/
theorem dget_K {K : PySem.W.Frag} {r : Addr} {H : Hp} {B : Addr → Prop} {v w : V} {ks : List Ky} {ds : List D} {d : D} {k : Ky} (h : Den K r H B v (.dK ks ds)) (hd : Den K r H B w d) (e : kyOf d = some k) : ∃ a o, v = .ref a ∧ DGet H a w o ∧ o.isSome = memA k ks ∧
    match lookA k ks ds with
    | some d => ∃ v, o = some v ∧ Den K r H B v d
    | none => o = none := by
  cases h with
  | dK h1 n e1 l =>
    rw [kyOf_den hd e]
    exact ⟨_, _, rfl, DGet.k h1, in_den (f := Ky.k) Ky.k_inj e1, lookA_den (f := Ky.k) Ky.k_inj e1 l⟩

theorem dget_T {K : PySem.W.Frag} {r : Addr} {H : Hp} {B : Addr → Prop} {v w : V} {ks : List (List Ky)} {ds : List D} {d : D} {k : List Ky} (h : Den K r H B v (.dT ks ds)) (hd : Den K r H B w d) (e : kyT d = some k) : ∃ a o, v = .ref a ∧ DGet H a w o ∧ o.isSome = memA k ks ∧
    match lookA k ks ds with
    | some d => ∃ v, o = some v ∧ Den K r H B v d
    | none => o = none := by
  cases h with
  | dT h1 n e1 l =>
    obtain ⟨a, rfl, ha⟩ := kyT_den hd e
    exact ⟨_, _, rfl, DGet.t h1 ha, in_den (f := fun k : List Ky => k.map Ky.k) map_k_inj e1, lookA_den (f := fun k : List Ky => k.map Ky.k) map_k_inj e1 l⟩

/-! ### comparisons -/
theorem reads_of {pins : List (Addr × Obj)} {s : Shared} {σ : L2.St} {H : Hp} {B : Addr → Prop} {x : V} {v : Value} {a : D} (I : Inv X pins σ H s) (rx : RelV x v) (ha : Den X.K Z.r H B x a) (f : a.flat = true) : ∃ as, Reads s.heap v a.py as :=
  Dp.reads I _ x v (Den.dp a x f ha) rx
theorem any_py (d : D) (f : d.flat = true) : ∀ xs : List D, D.flatL xs = true → (D.pyL xs).any (fun y => PyData.eqv y d.py) = xs.any fun z => eqB z d
  | [], _ => rfl
  | x :: xs, h => by
    simp only [D.flatL, Bool.and_eq_true] at h
    simp only [D.pyL, List.any_cons]
    rw [eqv_py x d h.1 f, any_py d f xs h.2]
theorem in_run {pins : List (Addr × Obj)} {s : Shared} {σ : L2.St} {H : Hp} {B : Addr → Prop} {x y : V} {v u : Value} {a b : D} {k : Bool} {g g' : G} {Q : Value → Shared → Prop} {E : Value → Shared → Prop} (hu : X.A.units + 200 < cLine) (I : Inv X pins σ H s) (rx : RelV x v) (ry : RelV y u)
    (ha : Den X.K Z.r H B x a) (hb : Den X.K Z.r H B y b) (e : inD a b g = .ok k g') (q : ∀ s', Inv X pins σ H s' → Q (.bool k) s') :
    wpAny (model X.prog X.w) X.A (compareOp .In v u) Q E s := by
  unfold inD at e
  split at e
  · rename_i t
    split at e
    · rename_i s'
      obtain ⟨rfl, _⟩ := pure_ok e
      cases ha; cases hb
      obtain ⟨t1, rfl⟩ := rx
      obtain ⟨t2, rfl⟩ := ry
      refine in_str ?_
      rw [in_S]
      exact q _ I
    · exact (stk_ok e).elim
  · rename_i xs
    obtain ⟨c, e⟩ := grd_ok e
    obtain ⟨rfl, _⟩ := pure_ok e
    rw [Bool.and_eq_true] at c
    obtain ⟨f1, p1⟩ := cmpOk_iff c.1
    obtain ⟨f2, p2⟩ := cmpOk_iff c.2
    obtain ⟨as, r1⟩ := reads_of (Z := Z) I rx ha f1
    obtain ⟨bs, r2⟩ := reads_of (Z := Z) I ry hb f2
    have f3 : D.flatL xs = true := by simpa [D.flat] using f2
    refine SeqAt.in_list_data (xs := D.pyL xs) (d := a.py) r2 r1 (plain_pyL xs f3) (plain_py a f1) ?_ ?_
    · rw [dep_py a f1]
      have := Nat.min_le_right (PyData.depthAll (D.pyL xs)) a.dep
      omega
    · rw [any_py a f1 xs f3]; exact q _ I
  · rename_i xs
    obtain ⟨c, e⟩ := grd_ok e
    obtain ⟨rfl, _⟩ := pure_ok e
    rw [Bool.and_eq_true] at c
    obtain ⟨f1, p1⟩ := cmpOk_iff c.1
    obtain ⟨f2, p2⟩ := cmpOk_iff c.2
    obtain ⟨as, r1⟩ := reads_of (Z := Z) I rx ha f1
    obtain ⟨bs, r2⟩ := reads_of (Z := Z) I ry hb f2
    have f3 : D.flatL xs = true := by simpa [D.flat] using f2
    refine SeqAt.in_tuple_data (xs := D.pyL xs) (d := a.py) r2 r1 (plain_pyL xs f3) (plain_py a f1) ?_ ?_
    · rw [dep_py a f1]
      have := Nat.min_le_right (PyData.depthAll (D.pyL xs)) a.dep
      omega
    · rw [any_py a f1 xs f3]; exact q _ I
  · cases hk : kyOf a with
    | none => simp only [hk] at e; exact (stk_ok e).elim
    | some k =>
      simp only [hk] at e
      obtain ⟨rfl, _⟩ := pure_ok e
      obtain ⟨p, o, rfl, g1, g2, _⟩ := dget_K hb ha hk
      obtain rfl : u = Value.ref p := ry
      refine d_in (by omega) I g1 rx fun s' I' => ?_
      rw [g2]; exact q _ I'
  · cases hk : kyT a with
    | none => simp only [hk] at e; exact (stk_ok e).elim
    | some k =>
      simp only [hk] at e
      obtain ⟨rfl, _⟩ := pure_ok e
      obtain ⟨p, o, rfl, g1, g2, _⟩ := dget_T hb ha hk
      obtain rfl : u = Value.ref p := ry
      refine d_in (by omega) I g1 rx fun s' I' => ?_
      rw [g2]; exact q _ I'
  · exact (stk_ok e).elim
theorem notIn_run {pins : List (Addr × Obj)} {s : Shared} {σ : L2.St} {H : Hp} {B : Addr → Prop} {x y : V} {v u : Value} {a b : D} {k : Bool} {g g' : G} {Q : Value → Shared → Prop} {E : Value → Shared → Prop} (hu : X.A.units + 200 < cLine) (I : Inv X pins σ H s) (rx : RelV x v) (ry : RelV y u)
    (ha : Den X.K Z.r H B x a) (hb : Den X.K Z.r H B y b) (e : inD a b g = .ok k g') (q : ∀ s', Inv X pins σ H s' → Q (.bool (!k)) s') :
    wpAny (model X.prog X.w) X.A (compareOp .NotIn v u) Q E s := by
  unfold inD at e
  split at e
  · rename_i t
    split at e
    · rename_i s'
      obtain ⟨rfl, _⟩ := pure_ok e
      cases ha; cases hb
      obtain ⟨t1, rfl⟩ := rx
      obtain ⟨t2, rfl⟩ := ry
      refine notIn_str ?_
      rw [in_S]
      exact q _ I
    · exact (stk_ok e).elim
  · rename_i xs
    obtain ⟨c, e⟩ := grd_ok e
    obtain ⟨rfl, _⟩ := pure_ok e
    rw [Bool.and_eq_true] at c
    obtain ⟨f1, p1⟩ := cmpOk_iff c.1
    obtain ⟨f2, p2⟩ := cmpOk_iff c.2
    obtain ⟨as, r1⟩ := reads_of (Z := Z) I rx ha f1
    obtain ⟨bs, r2⟩ := reads_of (Z := Z) I ry hb f2
    have f3 : D.flatL xs = true := by simpa [D.flat] using f2
    refine SeqAt.notIn_list_data (xs := D.pyL xs) (d := a.py) r2 r1 (plain_pyL xs f3) (plain_py a f1) ?_ ?_
    · rw [dep_py a f1]
      have := Nat.min_le_right (PyData.depthAll (D.pyL xs)) a.dep
      omega
    · rw [any_py a f1 xs f3]; exact q _ I
  · rename_i xs
    obtain ⟨c, e⟩ := grd_ok e
    obtain ⟨rfl, _⟩ := pure_ok e
    rw [Bool.and_eq_true] at c
    obtain ⟨f1, p1⟩ := cmpOk_iff c.1
    obtain ⟨f2, p2⟩ := cmpOk_iff c.2
    obtain ⟨as, r1⟩ := reads_of (Z := Z) I rx ha f1
    obtain ⟨bs, r2⟩ := reads_of (Z := Z) I ry hb f2
    have f3 : D.flatL xs = true := by simpa [D.flat] using f2
    refine SeqAt.notIn_tuple_data (xs := D.pyL xs) (d := a.py) r2 r1 (plain_pyL xs f3) (plain_py a f1) ?_ ?_
    · rw [dep_py a f1]
      have := Nat.min_le_right (PyData.depthAll (D.pyL xs)) a.dep
      omega
    · rw [any_py a f1 xs f3]; exact q _ I
  · cases hk : kyOf a with
    | none => simp only [hk] at e; exact (stk_ok e).elim
    | some k =>
      simp only [hk] at e
      obtain ⟨rfl, _⟩ := pure_ok e
      obtain ⟨p, o, rfl, g1, g2, _⟩ := dget_K hb ha hk
      obtain rfl : u = Value.ref p := ry
      refine d_notIn (by omega) I g1 rx fun s' I' => ?_
      rw [g2]; exact q _ I'
  · cases hk : kyT a with
    | none => simp only [hk] at e; exact (stk_ok e).elim
    | some k =>
      simp only [hk] at e
      obtain ⟨rfl, _⟩ := pure_ok e
      obtain ⟨p, o, rfl, g1, g2, _⟩ := dget_T hb ha hk
      obtain rfl : u = Value.ref p := ry
      refine d_notIn (by omega) I g1 rx fun s' I' => ?_
      rw [g2]; exact q _ I'
  · exact (stk_ok e).elim
theorem opr_cmp (hu : X.A.units + 200 < cLine) (o : CmpOp) : OpR X (compareOp o) (rT2 X.K Z (cmpD o)) := by
  intro pins s σ H x y v u Q I rx ry h
  obtain ⟨B, d1, d2, b, g, h1, h2, e, q⟩ := h
  unfold cmpD at e
  split at e
  · unfold eqD at e
    obtain ⟨c, e⟩ := grd_ok e
    obtain ⟨rfl, _⟩ := pure_ok e
    rw [Bool.and_eq_true] at c
    exact eq_run (by omega) I rx ry h1 h2 c.1 c.2 ⟨.bl _, H, I, rfl, q⟩
  · obtain ⟨k, g1, e1, e2⟩ := bind_ok e
    obtain ⟨rfl, _⟩ := pure_ok e2
    unfold eqD at e1
    obtain ⟨c, e1⟩ := grd_ok e1
    obtain ⟨rfl, _⟩ := pure_ok e1
    rw [Bool.and_eq_true] at c
    obtain ⟨f1, p1⟩ := cmpOk_iff c.1
    obtain ⟨f2, p2⟩ := cmpOk_iff c.2
    obtain ⟨as, r1⟩ := reads_of (Z := Z) I rx h1 f1
    obtain ⟨bs, r2⟩ := reads_of (Z := Z) I ry h2 f2
    refine SeqAt.ne_plain r1 r2 (plain_py _ f1) (plain_py _ f2) ?_ ?_
    · rw [dep_py _ f1]
      have := Nat.min_le_left d1.dep d2.py.depth
      omega
    · rw [eqv_py _ _ f1 f2]; exact ⟨.bl _, H, I, rfl, q⟩
  · cases h1; cases h2
    obtain ⟨rfl, _⟩ := pure_ok e
    exact op_lt pins s σ H _ _ v u Q I rx ry ⟨_, _, rfl, rfl, q⟩
  · cases h1; cases h2
    obtain ⟨rfl, _⟩ := pure_ok e
    exact op_le pins s σ H _ _ v u Q I rx ry ⟨_, _, rfl, rfl, q⟩
  · cases h1; cases h2
    obtain ⟨rfl, _⟩ := pure_ok e
    exact op_gt pins s σ H _ _ v u Q I rx ry ⟨_, _, rfl, rfl, q⟩
  · cases h1; cases h2
    obtain ⟨rfl, _⟩ := pure_ok e
    exact op_ge pins s σ H _ _ v u Q I rx ry ⟨_, _, rfl, rfl, q⟩
  · cases h1; cases h2
    obtain ⟨rfl, _⟩ := pure_ok e
    refine op_lt_str pins s σ H _ _ v u Q I rx ry ⟨_, _, rfl, rfl, ?_⟩
    rw [S_cps, S_cps, ← ltS_lt]
    exact q
  · exact in_run hu I rx ry h1 h2 e fun s' I' => ⟨.bl _, H, I', rfl, q⟩
  · obtain ⟨k, g1, e1, e2⟩ := bind_ok e
    obtain ⟨rfl, _⟩ := pure_ok e2
    exact notIn_run hu I rx ry h1 h2 e1 fun s' I' => ⟨.bl _, H, I', rfl, q⟩
  · obtain ⟨rfl, _⟩ := pure_ok e
    cases h2
    refine op_isN pins s σ H _ _ v u Q I rx ry ⟨rfl, ?_⟩
    cases h1 <;> exact q
  · obtain ⟨rfl, _⟩ := pure_ok e
    cases h2
    refine op_notN pins s σ H _ _ v u Q I rx ry ⟨rfl, ?_⟩
    cases h1 <;> exact q
  · exact (stk_ok e).elim
end
end TI
set_option Elab.async false
set_option linter.all false
set_option maxRecDepth 100000
set_option maxHeartbeats 4000000
/-! the order of sorted(..): ints, texts, tuples of them -/
namespace TI
open PySem PySem.Spec PyProof.Rows L2
/-- a strict total order -/
structure Sto {α : Type} (lt : α → α → Bool) : Prop where
  ir : ∀ x, lt x x = false
  tr : ∀ x y z, lt x y = true → lt y z = true → lt x z = true
  tot : ∀ x y, lt x y = false → lt y x = false → x = y
theorem sto_lex {α : Type} [DecidableEq α] {lt : α → α → Bool} (O : Sto lt) (L : List α → List α → Bool) (h1 : L [] [] = false) (h2 : ∀ y ys, L [] (y :: ys) = true) (h3 : ∀ x xs, L (x :: xs) [] = false)
    (h4 : ∀ x xs y ys, L (x :: xs) (y :: ys) = if x = y then L xs ys else lt x y) : Sto L := by
  refine ⟨?_, ?_, ?_⟩
  · intro x
    induction x with
    | nil => exact h1
    | cons x xs ih => rw [h4, if_pos rfl]; exact ih
  · intro x
    induction x with
    | nil =>
      intro y z a b
      cases z with
      | nil =>
        cases y with
        | nil => exact a
        | cons y ys => rw [h3] at b; cases b
      | cons z zs => exact h2 z zs
    | cons x xs ih =>
      intro y z a b
      cases y with
      | nil => rw [h3] at a; cases a
      | cons y ys =>
        cases z with
        | nil => rw [h3] at b; cases b
        | cons z zs =>
          rw [h4] at a b ⊢
          by_cases e1 : x = y
          · subst e1
            rw [if_pos rfl] at a
            by_cases e2 : x = z
            · subst e2
              rw [if_pos rfl] at b ⊢
              exact ih _ _ a b
            · rw [if_neg e2] at b ⊢
              exact b
          · rw [if_neg e1] at a
            by_cases e2 : y = z
            · subst e2
              rw [if_neg e1]; exact a
            · rw [if_neg e2] at b
              have := O.tr _ _ _ a b
              by_cases e3 : x = z
              · subst e3
                rw [O.ir] at this; cases this
              · rw [if_neg e3]; exact this
  · intro x
    induction x with
    | nil =>
      intro y a b
      cases y with
      | nil => rfl
      | cons y ys => rw [h2] at a; cases a
    | cons x xs ih =>
      intro y a b
      cases y with
      | nil => rw [h2] at b; cases b
      | cons y ys =>
        rw [h4] at a b
        by_cases e : x = y
        · subst e
          rw [if_pos rfl] at a b
          rw [ih _ a b]
        · rw [if_neg e] at a
          rw [if_neg (Ne.symm e)] at b
          exact absurd (O.tot _ _ a b) e
theorem sto_nat : Sto (fun a b : Nat => decide (a < b)) := ⟨fun x => by simp, fun x y z a b => by simp at *; omega, fun x y a b => by simp at *; omega⟩
theorem sto_N : Sto ltN := sto_lex sto_nat ltN rfl (fun _ _ => rfl) (fun _ _ => rfl) fun _ _ _ _ => rfl
theorem sto_Ky : Sto ltKy := by
  refine ⟨fun x => ?_, fun x y z a b => ?_, fun x y a b => ?_⟩
  · cases x with
    | i a => simp [ltKy]
    | s a => exact sto_N.ir a
  · cases x <;> cases y <;> cases z <;> simp only [ltKy, decide_eq_true_eq] at * <;> first | omega | exact sto_N.tr _ _ _ a b | (cases b; done) | (cases a; done) | trivial
  · cases x <;> cases y <;> simp only [ltKy, decide_eq_false_iff_not] at *
    · congr 1; omega
    · cases a
    · cases b
    · rw [sto_N.tot _ _ a b]
theorem sto_KL : Sto ltKL := sto_lex sto_Ky ltKL rfl (fun _ _ => rfl) (fun _ _ => rfl) fun _ _ _ _ => rfl
theorem Sto.swo {α β : Type} {lt : α → α → Bool} (O : Sto lt) (k : β → α) : SrtO.Swo fun x y => lt (k x) (k y) := by
  refine ⟨fun x y h => ?_, fun x y z h1 h2 => ?_⟩
  · cases e : lt (k y) (k x) with
    | false => rfl
    | true => have := O.tr _ _ _ h e; rw [O.ir] at this; cases this
  · cases e : lt (k z) (k x) with
    | false => rfl
    | true =>
      cases e2 : lt (k x) (k y) with
      | true => have := O.tr _ _ _ e e2; rw [h2] at this; cases this
      | false =>
        have := O.tot _ _ e2 h1
        rw [this, h2] at e; cases e
theorem kyOf_inj {a b : D} {k : Ky} (h1 : kyOf a = some k) (h2 : kyOf b = some k) : a = b := by
  cases a <;> cases b <;> simp [kyOf] at h1 h2 <;> (subst h1; simp at h2; try subst h2; try rfl)
theorem kyL_inj : ∀ {a b : List D} {k : List Ky}, kyL a = some k → kyL b = some k → a = b
  | [], [], _, _, _ => rfl
  | [], b :: bs, k, h1, h2 => by
    simp only [kyL, Option.some.injEq] at h1
    subst h1
    simp only [kyL] at h2
    split at h2 <;> simp at h2
  | a :: as, [], k, h1, h2 => by
    simp only [kyL, Option.some.injEq] at h2
    subst h2
    simp only [kyL] at h1
    split at h1 <;> simp at h1
  | a :: as, b :: bs, k, h1, h2 => by
    simp only [kyL] at h1 h2
    split at h1
    · rename_i k1 ks1 e1 e2
      split at h2
      · rename_i k2 ks2 e3 e4
        cases h1
        simp only [Option.some.injEq, List.cons.injEq] at h2
        obtain ⟨rfl, rfl⟩ := h2
        rw [kyOf_inj e1 e3, kyL_inj e2 e4]
      · cases h2
    · cases h1
theorem keyD_inj {a b : D} {k : List Ky} (s : shD a = shD b) (h1 : keyD a = some k) (h2 : keyD b = some k) : a = b := by
  cases a <;> simp only [keyD] at h1 <;> first | cases h1; done | skip
  all_goals cases b <;> simp only [keyD] at h2 <;> first | cases h2; done | skip
  · cases h1; cases h2; rfl
  · cases h1; cases h2
  · simp only [shD] at s
    split at s <;> simp at s
  · cases h1; cases h2
  · cases h1; cases h2; rfl
  · simp only [shD] at s
    split at s <;> simp at s
  · simp only [shD] at s
    split at s <;> simp at s
  · simp only [shD] at s
    split at s <;> simp at s
  · rw [kyL_inj h1 h2]
theorem shD_key {d : D} (h : (shD d).isSome = true) : ∃ k, keyD d = some k := by
  cases d <;> simp only [shD, Option.isSome] at h <;> first | cases h; done | skip
  · exact ⟨_, rfl⟩
  · exact ⟨_, rfl⟩
  · simp only [keyD]
    split at h
    · rename_i heq
      split at heq
      · rename_i e; exact ⟨_, e⟩
      · cases heq
    · cases h
end TI
set_option Elab.async false
set_option linter.all false
set_option maxRecDepth 100000
set_option maxHeartbeats 4000000
namespace TI
open PySem PySem.Spec PyProof.Rows L2
/-! ### values with their keys -/
inductive KyV : Value → Ky → Prop
  | i (n : Int) (t : Tok) : KyV (.int n t) (.i n)
  | s (x : List Nat) (t : Tok) : KyV (.str (S x) t) (.s x)
inductive KyVs : List Value → List Ky → Prop
  | nil : KyVs [] []
  | cons {u : Value} {us : List Value} {k : Ky} {ks : List Ky} : KyV u k → KyVs us ks → KyVs (u :: us) (k :: ks)
inductive VKy (h : Heap) : Nat → Value → List Ky → Prop
  | i (n : Int) (t : Tok) : VKy h 0 (.int n t) [.i n]
  | s (x : List Nat) (t : Tok) : VKy h 1 (.str (S x) t) [.s x]
  | t {a : Addr} {o : Obj} {us : Array Value} {n : Nat} {ks : List Ky} : h.get? a = some o → o.cls = .type "tuple" → o.data = .seq us n → KyVs us.toList ks → VKy h 2 (.ref a) ks
theorem KyV.uq {u : Value} {k l : Ky} (a : KyV u k) (b : KyV u l) : k = l := by
  cases a with
  | i n t => cases b; rfl
  | s x t =>
    generalize e : Value.str (S x) t = u at b
    cases b with
    | i n t' => cases e
    | s y t' =>
      simp only [Value.str.injEq] at e
      rw [S_inj e.1]
theorem KyVs.uq : ∀ {us : List Value} {k l : List Ky}, KyVs us k → KyVs us l → k = l
  | _, _, _, .nil, .nil => rfl
  | _, _, _, .cons a t, .cons b u => by rw [a.uq b, t.uq u]
theorem VKy.uq {h : Heap} {n m : Nat} {u : Value} {k l : List Ky} (a : VKy h n u k) (b : VKy h m u l) : k = l := by
  cases a with
  | i n t => cases b; rfl
  | s x t =>
    generalize e : Value.str (S x) t = u at b
    cases b with
    | i n t' => cases e
    | s y t' =>
      simp only [Value.str.injEq] at e
      rw [S_inj e.1]
    | t _ _ _ _ => cases e
  | t h1 h2 h3 h4 =>
    cases b with
    | t g1 g2 g3 g4 =>
      rw [h1] at g1
      cases g1
      rw [h3] at g3
      cases g3
      exact h4.uq g4
theorem KyVs.length : ∀ {us : List Value} {k : List Ky}, KyVs us k → us.length = k.length
  | _, _, .nil => rfl
  | _, _, .cons _ t => by simp [t.length]
open Classical in
noncomputable def kf (h : Heap) (u : Value) : List Ky := if e : ∃ n k, VKy h n u k then e.choose_spec.choose else []
theorem kf_eq {h : Heap} {n : Nat} {u : Value} {k : List Ky} (a : VKy h n u k) : kf h u = k := by
  unfold kf
  rw [dif_pos ⟨n, k, a⟩]
  exact VKy.uq (Exists.choose_spec (Exists.choose_spec (⟨n, k, a⟩ : ∃ n k, VKy h n u k))) a
theorem VKy.keep {h h' : Heap} {n : Nat} {u : Value} {k : List Ky} (a : VKy h n u k) (kp : ∀ b o, h.get? b = some o → o.cls = .type "tuple" → h'.get? b = some o) : VKy h' n u k := by
  cases a with
  | i n t => exact .i n t
  | s x t => exact .s x t
  | t h1 h2 h3 h4 => exact .t (kp _ _ h1 h2) h2 h3 h4
section
variable {prog : Program} {w : World} {A : Around} {E : Value → Shared → Prop} {s : Shared}
theorem ltN_dec (a b : List Nat) : decide ((S a).cps.toList < (S b).cps.toList) = ltN a b := by
  rw [S_cps, S_cps, ← ltS_lt]
  induction a generalizing b with
  | nil => cases b <;> rfl
  | cons x xs ih =>
    cases b with
    | nil => rfl
    | cons y ys =>
      simp only [ltS, ltN]
      rw [ih]
theorem kat_all : ∀ {us vs : List Value} {ks ls : List Ky} (i : Nat), KyVs us ks → KyVs vs ls → ks.map kyB = ls.map kyB → PySem.W.KatLex prog w A true false (fun r s' => s' = s ∧ r = ltKL ks ls) (us.zip vs) i s
  | _, _, _, _, i, .nil, .nil, _ => PySem.W.kat_nil ⟨rfl, rfl⟩
  | _, _, _, _, i, .nil, .cons _ _, h => by simp at h
  | _, _, _, _, i, .cons _ _, .nil, h => by simp at h
  | _, _, _, _, i, .cons (us := us) (ks := ks) a t, .cons (us := vs) (ks := ls) b u, h => by
    simp only [List.map_cons, List.cons.injEq] at h
    have ih := kat_all (i + 1) t u h.2
    cases a with
    | i x tx =>
      cases b with
      | i y ty =>
        refine PySem.W.kat_cons (SeqAt.EqAt.int_int x tx y ty prog w _ _ ?_)
        refine PySem.W.kat_go (fun e1 => ?_) (fun e1 => ?_)
        · have ex : x = y := by simpa using e1
          subst ex
          refine PySem.W.kat_yes ?_
          have e2 : ltKL (.i x :: ks) (.i x :: ls) = ltKL ks ls := by simp [ltKL]
          rw [e2]; exact ih
        · have ex : ¬ x = y := by simpa using e1
          have e2 : ltKL (.i x :: ks) (.i y :: ls) = decide (x < y) := by simp [ltKL, ltKy, ex]
          rw [e2]
          refine PySem.W.kat_no ?_
          cases hb : (true && i == 0) with
          | true => exact oneLt_int ⟨rfl, rfl⟩
          | false => exact PySem.W.kat_one _ _ (PyProof.Rows.lt_int ⟨rfl, rfl⟩)
      | s y ty => simp [kyB] at h
    | s x tx =>
      cases b with
      | i y ty => simp [kyB] at h
      | s y ty =>
        refine PySem.W.kat_cons (SeqAt.EqAt.str_str (S x) tx (S y) ty prog w _ _ ?_)
        refine PySem.W.kat_go (fun e1 => ?_) (fun e1 => ?_)
        · have ex : x = y := S_inj (by simpa using e1)
          subst ex
          refine PySem.W.kat_yes ?_
          have e2 : ltKL (.s x :: ks) (.s x :: ls) = ltKL ks ls := by simp [ltKL]
          rw [e2]; exact ih
        · have ex : ¬ x = y := fun z => by subst z; simp at e1
          have e2 : ltKL (.s x :: ks) (.s y :: ls) = ltN x y := by simp [ltKL, ltKy, ex]
          rw [e2]
          refine PySem.W.kat_no ?_
          cases hb : (true && i == 0) with
          | true => exact oneLt_str ⟨rfl, ltN_dec x y⟩
          | false => exact PySem.W.kat_one _ _ (PyProof.Rows.lt_str ⟨rfl, ltN_dec x y⟩)
/-- all of one kind: m, members ms -/
def VAll (h : Heap) (vs : List Value) (m : Nat) (ms : List Bool) : Prop := ∀ v ∈ vs, ∃ k, VKy h m v k ∧ (m = 2 → k.map kyB = ms)
theorem ky_cmp {vs : List Value} {m : Nat} {ms : List Bool} (hp : VAll s.heap vs m ms) {h0 : Heap} (eq : ∀ v ∈ vs, kf h0 v = kf s.heap v) : SrtO.Cmp prog w A s (if m = 2 then tuples' true else oneType') (fun p => p.1 ∈ vs) (SrtO.lt2 fun v u => ltKL (kf h0 v) (kf h0 u)) := by
  intro p q hm hm'
  obtain ⟨k, a, e1⟩ := hp _ hm
  obtain ⟨l, b, e2⟩ := hp _ hm'
  show wpAny (model prog w) A (keyLt' (if m = 2 then tuples' true else oneType') p.1 q.1) (fun r s' => s' = s ∧ r = ltKL (kf h0 p.1) (kf h0 q.1)) (fun _ _ => False) s
  rw [eq _ hm, eq _ hm', kf_eq a, kf_eq b]
  generalize p.1 = x at a
  generalize q.1 = y at b
  cases a with
  | i n t =>
    cases b with
    | i n' t' =>
      rw [if_neg (by decide), keyLt'_oneType]
      exact oneLt_int ⟨rfl, by simp [ltKL, ltKy]; intro h; omega⟩
  | s n t =>
    cases b with
    | s n' t' =>
      rw [if_neg (by decide), keyLt'_oneType]
      refine oneLt_str ⟨rfl, ?_⟩
      rw [ltN_dec]
      by_cases e : n = n'
      · subst e; simp [ltKL, sto_N.ir]
      · simp [ltKL, ltKy, e]
  | @t a1 o1 us1 n1 k1 h1 h2 h3 h4 =>
    cases b with
    | @t a2 o2 us2 n2 k2 g1 g2 g3 g4 =>
      rw [if_pos rfl]
      refine PySem.W.kat_lt h1 h3 g1 g3 ?_
      have el : decide (us1.size < us2.size) = false := decide_eq_false (by
        have a1 := h4.length
        have a2 := g4.length
        have a3 := congrArg List.length ((e1 rfl).trans (e2 rfl).symm)
        rw [List.length_map, List.length_map] at a3
        rw [Array.length_toList] at a1 a2
        omega)
      rw [el]
      exact kat_all 0 h4 g4 ((e1 rfl).trans (e2 rfl).symm)
theorem firsts_ky {h : Heap} {ms : List Bool} : ∀ {vs : List Value}, VAll h vs 2 ms → ∀ b r, ms = b :: r → ∃ fs : List Value, PySem.W.KatTups h vs fs ∧ fs.length = vs.length ∧ ∀ f ∈ fs, (b = true → ∃ x t, f = Value.int x t) ∧ (b = false → ∃ x t, f = Value.str x t)
  | [], _, b, r, _ => ⟨[], PySem.W.KatTups.nil, rfl, fun _ hm => by simp at hm⟩
  | v :: vs, hp, b, r, e => by
    obtain ⟨fs, h1, h2, h3⟩ := firsts_ky (vs := vs) (fun v' hm => hp v' (List.mem_cons_of_mem _ hm)) b r e
    obtain ⟨k, a, ek⟩ := hp v (List.mem_cons_self ..)
    have ek := ek rfl
    cases a with
    | @t a1 o1 us1 n1 k1 g1 g2 g3 g4 =>
      rw [e] at ek
      cases hk : us1.toList with
      | nil => rw [hk] at g4; cases g4; simp at ek
      | cons u us =>
        rw [hk] at g4
        cases g4 with
        | cons g5 g6 =>
          simp only [List.map_cons, List.cons.injEq] at ek
          refine ⟨u :: fs, PySem.W.KatTups.cons g1 g2 g3 (by rw [← Array.getElem?_toList, hk]; rfl) h1, by rw [List.length_cons, List.length_cons, h2], fun f hm => ?_⟩
          rcases List.mem_cons.mp hm with rfl | hm
          · rw [← ek.1]
            cases g5 with
            | i n t => exact ⟨fun _ => ⟨_, _, rfl⟩, fun z => by cases z⟩
            | s n t => exact ⟨fun z => (by cases z), fun _ => ⟨_, _, rfl⟩⟩
          · exact h3 f hm
theorem ints_ky {h : Heap} : ∀ {vs : List Value} {ms : List Bool}, VAll h vs 0 ms → ∃ ns, IntsAre vs ns
  | [], _, _ => ⟨[], .nil⟩
  | v :: vs, _, hp => by
    obtain ⟨ns, h1⟩ := ints_ky (vs := vs) fun v' hm => hp v' (List.mem_cons_of_mem _ hm)
    obtain ⟨k, a, _⟩ := hp v (List.mem_cons_self ..)
    cases a with
    | i n t => exact ⟨_, .cons n t h1⟩
theorem strs_ky {h : Heap} : ∀ {vs : List Value} {ms : List Bool}, VAll h vs 1 ms → ∃ ns, StrsAre vs ns
  | [], _, _ => ⟨[], .nil⟩
  | v :: vs, _, hp => by
    obtain ⟨ns, h1⟩ := strs_ky (vs := vs) fun v' hm => hp v' (List.mem_cons_of_mem _ hm)
    obtain ⟨k, a, _⟩ := hp v (List.mem_cons_self ..)
    cases a with
    | s n t => exact ⟨_, .cons _ t h1⟩
theorem ky_sortable {a : Addr} {vs : List Value} {m : Nat} {ms : List Bool} (h2 : 2 ≤ vs.length) (hp : VAll s.heap vs m ms) (hm : m = 2 → ms ≠ []) (ha : ∀ o, s.heap.get? a = some o → o.cls ≠ .type "tuple") :
    SrtO.SortableO prog w A s a vs fun v u => ltKL (kf s.heap v) (kf s.heap u) := by
  intro h' keep
  have kp : ∀ b o, s.heap.get? b = some o → o.cls = .type "tuple" → h'.get? b = some o := fun b o e c => keep b o (fun z => by subst z; exact ha o e c) e
  have hp' : VAll h' vs m ms := fun v hv => by
    obtain ⟨k, a, e⟩ := hp v hv
    exact ⟨k, a.keep kp, e⟩
  have eq : ∀ v ∈ vs, kf s.heap v = kf h' v := fun v hv => by
    obtain ⟨k, a, e⟩ := hp v hv
    rw [kf_eq a, kf_eq (a.keep kp)]
  refine ⟨if m = 2 then tuples' true else oneType', fun Q E hq => ?_, ky_cmp (s := { s with heap := h' }) hp' eq⟩
  obtain ⟨v1, v2, rest, rfl⟩ : ∃ v1 v2 rest, vs = v1 :: v2 :: rest := by
    match vs, h2 with
    | v1 :: v2 :: rest, _ => exact ⟨_, _, _, rfl⟩
    | [], h => exact absurd h (by decide)
    | [v], h => exact absurd h (by simp)
  by_cases e2 : m = 2
  · subst e2
    rw [if_pos rfl] at hq
    obtain ⟨b, r, eb⟩ : ∃ b r, ms = b :: r := by
      cases ms with
      | nil => exact absurd rfl (hm rfl)
      | cons b r => exact ⟨b, r, rfl⟩
    obtain ⟨fs, h1, h2, h3⟩ := firsts_ky hp' b r eb
    cases b with
    | true =>
      refine PySem.W.kat_kind (T := .type "int") (s := { s with heap := h' }) h1 (by omega) (fun f hm => ?_) (by rfl) ?_
      · obtain ⟨x, t, rfl⟩ := (h3 f hm).1 rfl
        exact PySem.W.Looks.now
      · have e : (Value.type "int" != Value.type "tuple") = true := by first | decide +kernel | rfl | decide
        rw [e]
        exact hq
    | false =>
      refine PySem.W.kat_kind (T := .type "str") (s := { s with heap := h' }) h1 (by omega) (fun f hm => ?_) (by rfl) ?_
      · obtain ⟨x, t, rfl⟩ := (h3 f hm).2 rfl
        exact PySem.W.Looks.now
      · have e : (Value.type "str" != Value.type "tuple") = true := by first | decide +kernel | rfl | decide
        rw [e]
        exact hq
  · rw [if_neg e2] at hq
    have : m = 0 ∨ m = 1 := by
      obtain ⟨k, a, _⟩ := hp v1 (by simp)
      cases a with
      | i _ _ => exact .inl rfl
      | s _ _ => exact .inr rfl
      | t _ _ _ _ => exact absurd rfl e2
    rcases this with rfl | rfl
    · obtain ⟨ns, hI⟩ := ints_ky hp'
      rw [keyKind_ints hI]
      exact wpAny_pure hq
    · obtain ⟨ns, hI⟩ := strs_ky hp'
      rw [keyKind_strs hI]
      exact wpAny_pure hq
end
end TI
namespace TI
open PySem PySem.Spec PyProof.Rows L2
/-! ### the sorted trees -/
theorem leD_trans (a b c : D) (h1 : leD a b = true) (h2 : leD b c = true) : leD a c = true := by
  unfold leD at *
  simp only [Bool.not_eq_true'] at *
  exact (sto_KL.swo fun d : D => (keyD d).getD []).tr _ _ _ h1 h2
theorem leD_total (a b : D) : (leD a b || leD b a) = true := by
  unfold leD
  cases e : ltKL ((keyD b).getD []) ((keyD a).getD []) with
  | false => rfl
  | true => rw [(sto_KL.swo fun d : D => (keyD d).getD []).asym _ _ e]; rfl
theorem sortD_perm (ds : List D) : (sortD ds).Perm ds := List.mergeSort_perm _ _
theorem sortD_pw (ds : List D) : (sortD ds).Pairwise fun a b => leD a b = true := List.pairwise_mergeSort leD_trans leD_total ds
theorem srtOk_mem {ds : List D} (h : srtOk ds = true) : ∀ a ∈ ds, ∀ b ∈ ds, shD a = shD b ∧ ∃ k, keyD a = some k := by
  cases ds with
  | nil => intro a ha; simp at ha
  | cons d ds =>
    unfold srtOk at h
    rw [Bool.and_eq_true] at h
    have key : ∀ a ∈ d :: ds, shD a = shD d := fun a ha => by
      rcases List.mem_cons.mp ha with rfl | ha
      · rfl
      · exact of_decide_eq_true (List.all_eq_true.mp h.2 a ha)
    intro a ha b hb
    exact ⟨(key a ha).trans (key b hb).symm, shD_key (by rw [key a ha]; exact h.1)⟩
/-- the only sorted order -/
theorem sortD_uq {ds es : List D} (h : srtOk ds = true) (p : es.Perm ds) (pw : es.Pairwise fun a b => leD a b = true) : es = sortD ds := by
  refine List.Perm.eq_of_pairwise (le := fun a b => leD a b = true) (fun a b ha hb h1 h2 => ?_) pw (sortD_pw ds) (p.trans (sortD_perm ds).symm)
  have ha := p.mem_iff.mp ha
  have hb := (sortD_perm ds).mem_iff.mp hb
  obtain ⟨e, k, hk⟩ := srtOk_mem h a ha b hb
  obtain ⟨_, l, hl⟩ := srtOk_mem h b hb a ha
  unfold leD at h1 h2
  rw [hk, hl] at h1 h2
  simp only [Option.getD_some, Bool.not_eq_true'] at h1 h2
  have := sto_KL.tot _ _ h2 h1
  subst this
  exact keyD_inj e hk hl
theorem perm_lift {α β : Type} (f : α → β) : ∀ {out : List β} {l : List α}, out.Perm (l.map f) → ∃ l' : List α, l'.Perm l ∧ l'.map f = out
  | [], l, h => by
    have : l = [] := by simpa using h.symm.eq_nil
    exact ⟨[], by rw [this], rfl⟩
  | x :: out, l, h => by
    obtain ⟨y, hy, rfl⟩ := List.mem_map.mp (h.mem_iff.mp List.mem_cons_self)
    obtain ⟨l1, l2, rfl⟩ := List.append_of_mem hy
    have h' : (f y :: out).Perm (f y :: (l1 ++ l2).map f) := h.trans ((List.perm_middle (a := y) (l₁ := l1) (l₂ := l2)).map f)
    obtain ⟨l', p, e⟩ := perm_lift f h'.cons_inv
    exact ⟨y :: l', (p.cons y).trans (List.perm_middle (a := y) (l₁ := l1) (l₂ := l2)).symm, by rw [List.map_cons, e]⟩
/-- values with their trees -/
inductive VUD (K : PySem.W.Frag) (r : Addr) (H : Hp) (B : Addr → Prop) : List (V × Value × D) → Prop
  | nil : VUD K r H B []
  | cons {v : V} {u : Value} {d : D} {l : List (V × Value × D)} : RelV v u → Den K r H B v d → VUD K r H B l → VUD K r H B ((v, u, d) :: l)
section
variable {K : PySem.W.Frag} {r : Addr} {H : Hp} {B : Addr → Prop}
theorem vud_of : ∀ {vs : List V} {us : List Value} {ds : List D}, Vals vs us → DenL K r H B vs ds → ∃ l, VUD K r H B l ∧ l.map (·.1) = vs ∧ l.map (·.2.1) = us ∧ l.map (·.2.2) = ds
  | _, _, _, .nil, .nil => ⟨[], .nil, rfl, rfl, rfl⟩
  | _, _, _, .cons a t, .cons b u => by
    obtain ⟨l, h1, h2, h3, h4⟩ := vud_of t u
    exact ⟨_, .cons a b h1, by simp [h2], by simp [h3], by simp [h4]⟩
theorem VUD.mem {l : List (V × Value × D)} (h : VUD K r H B l) : ∀ x ∈ l, RelV x.1 x.2.1 ∧ Den K r H B x.1 x.2.2 := by
  induction h with
  | nil => intro x hx; simp at hx
  | cons a b t ih =>
    intro x hx
    rcases List.mem_cons.mp hx with rfl | hx
    · exact ⟨a, b⟩
    · exact ih x hx
theorem vud_back : ∀ {l : List (V × Value × D)}, (∀ x ∈ l, RelV x.1 x.2.1 ∧ Den K r H B x.1 x.2.2) → Vals (l.map (·.1)) (l.map (·.2.1)) ∧ DenL K r H B (l.map (·.1)) (l.map (·.2.2))
  | [], _ => ⟨.nil, .nil⟩
  | x :: l, h => by
    obtain ⟨h1, h2⟩ := vud_back fun y hy => h y (List.mem_cons_of_mem _ hy)
    obtain ⟨h3, h4⟩ := h x List.mem_cons_self
    exact ⟨.cons h3 h1, .cons h4 h2⟩
theorem kyVs_of : ∀ {ks : List Ky} {us : List Value}, Vals ((ks.map Ky.k).map kV) us → KyVs us ks
  | [], _, h => by cases h; exact .nil
  | .i n :: ks, _, h => by
    cases h with
    | cons a t =>
      obtain ⟨tk, rfl⟩ := a
      exact .cons (.i n tk) (kyVs_of t)
  | .s x :: ks, _, h => by
    cases h with
    | cons a t =>
      obtain ⟨tk, rfl⟩ := a
      exact .cons (.s x tk) (kyVs_of t)
theorem vky_of {X : Cx} {pins : List (Addr × Obj)} {s : Shared} {σ : L2.St} {v : V} {u : Value} {d : D} {k : List Ky} {m : Nat} {ms : List Bool} (I : Inv X pins σ H s) (a : RelV v u) (n : Den K r H B v d) (hs : shD d = some (m, ms)) (hk : keyD d = some k) :
    VKy s.heap m u k ∧ (m = 2 → k.map kyB = ms) := by
  cases n with
  | int i =>
    obtain ⟨t, rfl⟩ := a
    cases hs; cases hk
    exact ⟨.i _ _, fun z => by cases z⟩
  | str x =>
    obtain ⟨t, rfl⟩ := a
    cases hs; cases hk
    exact ⟨.s _ _, fun z => by cases z⟩
  | @tup ad vs ds h1 h2 =>
    obtain rfl : u = Value.ref ad := a
    have hk : kyL ds = some k := hk
    have e1 := kyL_den h2 hk
    obtain ⟨_, its2, r2, o, ho, hc, nn, hd⟩ := I.hok _ _ h1
    rw [e1] at r2
    have hs : (match kyL ds with
      | some (k :: ks) => some (2, (k :: ks).map kyB)
      | _ => none) = some (m, ms) := hs
    rw [hk] at hs
    cases k with
    | nil => cases hs
    | cons k0 ks =>
      simp only [Option.some.injEq, Prod.mk.injEq] at hs
      obtain ⟨rfl, rfl⟩ := hs
      exact ⟨.t ho hc hd (by simpa using kyVs_of r2), fun _ => rfl⟩
  | _ => cases hs
end
section
variable {X : Cx}
theorem srtOk_sh {ds : List D} (h : srtOk ds = true) (h0 : ds ≠ []) : ∃ m ms, (∀ d ∈ ds, shD d = some (m, ms)) ∧ (m = 2 → ms ≠ []) := by
  cases ds with
  | nil => exact absurd rfl h0
  | cons d ds =>
    unfold srtOk at h
    rw [Bool.and_eq_true] at h
    obtain ⟨⟨m, ms⟩, e⟩ := Option.isSome_iff_exists.mp h.1
    refine ⟨m, ms, fun a ha => ?_, fun z => ?_⟩
    · rcases List.mem_cons.mp ha with rfl | ha
      · exact e
      · exact (of_decide_eq_true (List.all_eq_true.mp h.2 a ha)).trans e
    · subst z
      cases d <;> simp only [shD] at e <;> first | cases e; done | skip
      split at e
      · simp only [Option.some.injEq, Prod.mk.injEq] at e
        rw [← e.2]; simp
      · cases e
theorem pw_of {h : Heap} {m : Nat} : ∀ {l : List (V × Value × D)}, (∀ x ∈ l, ∃ k, keyD x.2.2 = some k ∧ VKy h m x.2.1 k) → (l.map (·.2.1)).Pairwise (fun x y => ltKL (kf h y) (kf h x) = false) → (l.map (·.2.2)).Pairwise fun a b => leD a b = true := fun {l} hk hp => by
  rw [List.pairwise_map] at hp ⊢
  refine List.Pairwise.imp_of_mem (fun {a b} ha hb h => ?_) hp
  obtain ⟨k, e1, e2⟩ := hk a ha
  obtain ⟨k', e3, e4⟩ := hk b hb
  unfold leD
  rw [e1, e3]
  rw [kf_eq e2, kf_eq e4] at h
  simp [h]
/-- what sorting gives, by trees -/
theorem srt_end {Z : Spc} {B : Addr → Prop} {pins : List (Addr × Obj)} {s : Shared} {σ : L2.St} {H : Hp} {vs : List V} {us : List Value} {ds : List D} {out : List Value} (I : Inv X pins σ H s) (rv : Vals vs us) (n : DenL X.K Z.r H B vs ds) (ok : srtOk ds = true) {h0 : Heap} (e0 : ∀ b o, s.heap.get? b = some o → h0.get? b = some o)
    (h1 : SrtO.Srtd (fun v u => ltKL (kf h0 v) (kf h0 u)) out) (h2 : out.Perm us) : ∃ vs', Vals vs' out ∧ DenL X.K Z.r H B vs' (sortD ds) ∧ vs'.length = ds.length := by
  obtain ⟨l, hl, e1, e2, e3⟩ := vud_of rv n
  rw [← e2] at h2
  obtain ⟨l', p, e4⟩ := perm_lift _ h2
  obtain ⟨b1, b2⟩ := vud_back fun x hx => hl.mem x (p.mem_iff.mp hx)
  have es : l'.map (·.2.2) = sortD ds := by
    refine sortD_uq ok (by rw [← e3]; exact p.map _) ?_
    by_cases hn : ds = []
    · subst hn
      have : l = [] := by simpa using e3
      subst this
      have : l' = [] := p.eq_nil
      subst this
      exact List.Pairwise.nil
    · obtain ⟨m, ms, hs, _⟩ := srtOk_sh ok hn
      refine pw_of (m := m) (fun x hx => ?_) (by rw [e4]; exact h1)
      have hx' := p.mem_iff.mp hx
      have hd : x.2.2 ∈ ds := by rw [← e3]; exact List.mem_map.mpr ⟨x, hx', rfl⟩
      obtain ⟨_, k, hk⟩ := srtOk_mem ok _ hd _ hd
      obtain ⟨a, b⟩ := hl.mem x hx'
      exact ⟨k, hk, (vky_of I a b (hs _ hd) hk).1.keep fun b o e _ => e0 b o e⟩
  refine ⟨l'.map (·.1), by rw [← e4]; exact b1, by rw [← es]; exact b2, ?_⟩
  rw [List.length_map, p.length_eq, ← e3, List.length_map]
theorem vall_of {Z : Spc} {B : Addr → Prop} {pins : List (Addr × Obj)} {s : Shared} {σ : L2.St} {H : Hp} {vs : List V} {us : List Value} {ds : List D} (I : Inv X pins σ H s) (rv : Vals vs us) (n : DenL X.K Z.r H B vs ds) (ok : srtOk ds = true) (h0 : us ≠ []) : ∃ m ms, VAll s.heap us m ms ∧ (m = 2 → ms ≠ []) := by
  obtain ⟨l, hl, e1, e2, e3⟩ := vud_of rv n
  have hn : ds ≠ [] := fun z => by
    subst z
    have : l = [] := by simpa using e3
    subst this
    exact h0 e2.symm
  obtain ⟨m, ms, hs, hm⟩ := srtOk_sh ok hn
  refine ⟨m, ms, fun u hu => ?_, hm⟩
  rw [← e2] at hu
  obtain ⟨x, hx, rfl⟩ := List.mem_map.mp hu
  obtain ⟨a, b⟩ := hl.mem x hx
  have hd : x.2.2 ∈ ds := by rw [← e3]; exact List.mem_map.mpr ⟨x, hx, rfl⟩
  obtain ⟨_, k, hk⟩ := srtOk_mem ok _ hd _ hd
  obtain ⟨c1, c2⟩ := vky_of I a b (hs _ hd) hk
  exact ⟨k, c1, c2⟩
/-- sorted(x), x a list -/
theorem sorted_list {Z : Spc} {B : Addr → Prop} {pins : List (Addr × Obj)} {s : Shared} {σ : L2.St} {H : Hp} {a : Addr} {vs : List V} {ds : List D} {Q : VK} (I : Inv X pins σ H s) (ha : SqL X.K H a vs) (bk : BOk B H) (n : DenL X.K Z.r H B vs ds) (ok : srtOk ds = true)
    (q : ∀ v H', Same H H' → Den X.K Z.r H' B v (.lst (sortD ds)) → (∃ p, v = .ref p ∧ H p = none) → Q v H') : wpAny (model X.prog X.w) X.A (call (.builtin "sorted") [.ref a]) (EP X pins σ Q) X.xe s := by
  obtain ⟨its, rv, hl, hz⟩ := I.list ha
  have hz' : its.length ≤ sizeLine := by rw [← rv.length]; exact hz
  refine SrtO.sorted_ord (sto_KL.swo (kf s.heap)) hl.isList hz' (fun h2 h₁ a' ha' kk => ?_) fun out h1 h2 => ?_
  · obtain ⟨m, ms, va, hm⟩ := vall_of I rv n ok (fun z => by subst z; exact absurd h2 (by decide))
    have kp : ∀ b o, s.heap.get? b = some o → o.cls = .type "tuple" → h₁.get? b = some o := fun b o e _ => (kk b o e).2
    have va' : VAll h₁ its m ms := fun v hv => by
      obtain ⟨k, x, e⟩ := va v hv
      exact ⟨k, x.keep kp, e⟩
    intro h' keep
    obtain ⟨κ, g1, g2⟩ := ky_sortable (prog := X.prog) (w := X.w) (A := X.A.in1.in1) (s := { s with heap := h₁ }) (a := a') h2 va' hm (fun o e => by
      have e' : some o = some (seqObj "list" its.toArray 0) := e.symm.trans ha'
      cases e'
      intro c
      exact absurd (Value.type.inj c) (by decide)) h' keep
    refine ⟨κ, g1, fun p q hp hq => ?_⟩
    have := g2 p q hp hq
    have e1 : ∀ v ∈ its, kf h₁ v = kf s.heap v := fun v hv => by
      obtain ⟨k, x, e⟩ := va v hv
      rw [kf_eq x, kf_eq (x.keep kp)]
    have e2 : SrtO.lt2 (fun v u => ltKL (kf h₁ v) (kf h₁ u)) p q = SrtO.lt2 (fun v u => ltKL (kf s.heap v) (kf s.heap u)) p q := by
      show ltKL (kf h₁ p.1) (kf h₁ q.1) = ltKL (kf s.heap p.1) (kf s.heap q.1)
      rw [e1 _ hp, e1 _ hq]
    rw [← e2]
    exact this
  · obtain ⟨vs', b1, b2, b3⟩ := srt_end I rv n ok (h0 := s.heap) (fun b o e => e) h1 h2.perm
    obtain ⟨ep, he'⟩ := PyProof.Rows.sortedAll_at s.heap its out.toArray
    have np : H (s.heap.objs.size + 1) = none := I.hok.fresh (Nat.le_succ _)
    exact ⟨.ref _, upd H (s.heap.objs.size + 1) (.lst vs'), I.laid (t' := s.toks) (fun _ _ => PyProof.Rows.sortedAll_old) (Nat.le_succ _) ⟨by rw [b3, ← n.length]; exact hz, out, ep, b1, he'⟩, rfl, q _ _ (same_upd np) (den_newL bk np b2) ⟨_, rfl, np⟩⟩
end
end TI
set_option Elab.async false
set_option linter.all false
set_option maxRecDepth 100000
set_option maxHeartbeats 4000000
namespace TI
open PySem PySem.Spec PyProof.Rows L2
theorem den_keys {K : PySem.W.Frag} {r : Addr} {H : Hp} {B : Addr → Prop} : ∀ {ks : List Ky}, DenL K r H B ((ks.map Ky.k).map kV) (ks.map Ky.d)
  | [] => .nil
  | .i n :: ks => .cons (.int n) den_keys
  | .s x :: ks => .cons (.str x) den_keys
section
variable {X : Cx}
theorem sortable_of {Z : Spc} {B : Addr → Prop} {pins : List (Addr × Obj)} {s : Shared} {σ : L2.St} {H : Hp} {A : Around} {us : List Value} {vs : List V} {ds : List D} {h₁ : Heap} {a' : Addr} (I : Inv X pins σ H s) (rv : Vals vs us) (n : DenL X.K Z.r H B vs ds) (ok : srtOk ds = true) (h2 : 2 ≤ us.length)
    (kk : ∀ b o, s.heap.get? b = some o → h₁.get? b = some o) (ha' : h₁.get? a' = some (seqObj "list" us.toArray 0)) : SrtO.SortableO X.prog X.w A { s with heap := h₁ } a' us fun v u => ltKL (kf s.heap v) (kf s.heap u) := by
  obtain ⟨m, ms, va, hm⟩ := vall_of I rv n ok (fun z => by subst z; exact absurd h2 (by decide))
  have kp : ∀ b o, s.heap.get? b = some o → o.cls = .type "tuple" → h₁.get? b = some o := fun b o e _ => kk b o e
  have va' : VAll h₁ us m ms := fun v hv => by
    obtain ⟨k, x, e⟩ := va v hv
    exact ⟨k, x.keep kp, e⟩
  intro h' keep
  obtain ⟨κ, g1, g2⟩ := ky_sortable (prog := X.prog) (w := X.w) (A := A) (s := { s with heap := h₁ }) (a := a') h2 va' hm (fun o e => by
    have e' : some o = some (seqObj "list" us.toArray 0) := e.symm.trans ha'
    cases e'
    intro c
    exact absurd (Value.type.inj c) (by decide)) h' keep
  refine ⟨κ, g1, fun p q hp hq => ?_⟩
  have := g2 p q hp hq
  have e1 : ∀ v ∈ us, kf h₁ v = kf s.heap v := fun v hv => by
    obtain ⟨k, x, e⟩ := va v hv
    rw [kf_eq x, kf_eq (x.keep kp)]
  have e2 : SrtO.lt2 (fun v u => ltKL (kf h₁ v) (kf h₁ u)) p q = SrtO.lt2 (fun v u => ltKL (kf s.heap v) (kf s.heap u)) p q := by
    show ltKL (kf h₁ p.1) (kf h₁ q.1) = ltKL (kf s.heap p.1) (kf s.heap q.1)
    rw [e1 _ hp, e1 _ hq]
  rw [← e2]
  exact this
/-- .. behind the collecting -/
theorem sorted_acc {Z : Spc} {B : Addr → Prop} {pins : List (Addr × Obj)} {s : Shared} {σ : L2.St} {H : Hp} {A : Around} {E : Value → Shared → Prop} {us : List Value} {vs : List V} {ds : List D} {Q : VK} (I : Inv X pins σ H s) (rv : Vals vs us) (bk : BOk B H) (n : DenL X.K Z.r H B vs ds) (ok : srtOk ds = true) (hz : us.length ≤ sizeLine)
    (q : ∀ v H', Same H H' → Den X.K Z.r H' B v (.lst (sortD ds)) → (∃ p, v = .ref p ∧ H p = none) → Q v H') :
    wpAny (model X.prog X.w) A (newList us >>= fun out => (holding [out] (call (.builtin "list.sort") [out] []) >>= fun _ => ret out)) (fun fin s' => ∃ v, fin = PySem.Fin.done (Flow.ret v) ∧ EP X pins σ Q v s') E s := by
  refine wpAny_bind (wpAny_newList ?_ hz)
  have hoL : (s.heap.push (seqObj "list" us.toArray 0)).get? s.heap.objs.size = some (seqObj "list" us.toArray 0) := Heap.get?_push_size _ rfl
  have kk : ∀ b o, s.heap.get? b = some o → (s.heap.push (seqObj "list" us.toArray 0)).get? b = some o := fun b o e => Heap.get?_push_of_some _ e
  show wpAny _ _ _ _ _ { s with heap := s.heap.push (seqObj "list" us.toArray 0) }
  refine wpAny_bind (wpAny_holding (wpAny_call_entry PyProof.Rows.slot_list_sort ⟨_, hoL, rfl⟩ PyProof.Rows.entry_list_sort (SrtO.list_sort_ord (ltv := fun v u => ltKL (kf s.heap v) (kf s.heap u)) (s := { s with heap := s.heap.push (seqObj "list" us.toArray 0) }) (sto_KL.swo _) hoL hz (fun h2 => sortable_of I rv n ok h2 kk hoL) fun out h1 h2 => ⟨_, rfl, ?_⟩) (PyProof.Rows.args_list_sort _)))
  obtain ⟨vs', b1, b2, b3⟩ := srt_end I rv n ok (h0 := s.heap) (fun b o e => e) h1 h2.perm
  obtain ⟨e', he'⟩ := PyProof.Rows.sortedHeap_at (vs := us) (out := out.toArray) hoL
  have np : H s.heap.objs.size = none := I.hok.fresh (Nat.le_refl _)
  refine wpAny_pure ⟨_, rfl, .ref s.heap.objs.size, upd H s.heap.objs.size (.lst vs'), I.laid (t' := s.toks) (fun b u e => ?_) (Nat.le_refl _) (show ObjOk X.prog X.w _ _ _ (.lst vs') from ⟨?_, out, e', b1, he'⟩), rfl, q _ _ (same_upd np) (den_newL bk np b2) ⟨_, rfl, np⟩⟩
  · have hb : b < s.heap.objs.size := Heap.lt_size e
    rw [PyProof.Rows.sortedHeap_old (Nat.ne_of_lt hb) (by rw [size_push']; exact Nat.lt_succ_of_lt hb)]
    exact Heap.get?_push_of_some _ e
  · have l1 := rv.length
    have l2 := n.length
    omega
/-- sorted(d), d a dict -/
theorem sorted_dk {Z : Spc} {B : Addr → Prop} {pins : List (Addr × Obj)} {s : Shared} {σ : L2.St} {H : Hp} {a : Addr} {kvs : List (Key × V)} {ks : List Ky} {Q : VK} (hcalm : X.calm = true) (I : Inv X pins σ H s) (ha : H a = some (.dK kvs)) (hk : kvs.map (·.1) = ks.map Ky.k) (bk : BOk B H) (ok : srtOk (ks.map Ky.d) = true)
    (q : ∀ v H', Same H H' → Den X.K Z.r H' B v (.lst (sortD (ks.map Ky.d))) → (∃ p, v = .ref p ∧ H p = none) → Q v H') : wpAny (model X.prog X.w) X.A (call (.builtin "sorted") [.ref a]) (EP X pins σ Q) X.xe s := by
  obtain ⟨z, lo, vs, rel, dd⟩ := dk_rd I.hok (.inl ha)
  obtain ⟨ep, hat⟩ := dd.dictAt
  have h16 : vs.length ≤ sizeLine := by rw [← rel.length]; exact z
  refine Calls.call_function_entry PyProof.Rows.kind_sorted PyProof.Rows.plain_sorted PyProof.Rows.entry_sorted (PyProof.Rows.args_sorted1 _) ?_
  unfold Builtin.«sorted»
  refine wpAny_bind (m := checkCount "sorted" 1 1 _) (wpAny_pure ?_)
  refine wpAny_bind (PySem.W.kdu_collect (A := X.A.in1) (PySem.W.kdl_dict (knd := mixKind X.prog X.w) (kvs := vs) (ep := ep) lo) (I.ok.hd hcalm) hat h16 fun h' tk acc hkp hacc => ?_)
  have hv : Vals (vs.map fun p => kV p.1) acc.toList := keys_at (by rw [Array.length_toList]; exact hacc.1) fun j v e => hacc.2 j v (by rw [← Array.getElem?_toList]; exact e)
  have ek : (vs.map fun p => kV p.1) = (ks.map Ky.k).map kV := by
    rw [← hk, rel.keys, List.map_map]; rfl
  rw [ek] at hv
  have I1 : Inv X pins σ H { s with heap := h', toks := tk } := I.kept hkp
  exact sorted_acc (A := X.A.in1) I1 hv bk den_keys ok (by rw [← hv.length, ← ek, List.length_map]; exact h16) q
end
end TI
set_option Elab.async false
set_option linter.all false
set_option maxRecDepth 100000
set_option maxHeartbeats 4000000
/-! sets of ints and texts that are walked: only sorted(..) of them -/
namespace TI
open PySem PySem.Spec PyProof.Rows L2
def ktO (v : Value) : Ky := match v with
  | .int i _ => .i i
  | .str x _ => .s x.cps.toList
  | _ => .i 0
theorem S_cpsL (x : Str) : S x.cps.toList = x := by simp [S]
/-- an entry of the table: its key, its hash -/
def EntOk (w : World) (e : Int × Value) : Prop := keyIs (ktO e.2).k e.2 = true ∧ e.1 = keyH w (ktO e.2).k
theorem mem_one' {α : Type} {a b : α} (h : a ∈ [b]) : a = b := by simpa using h
theorem ent_mk (w : World) {k : Ky} {u : Value} (h : keyIs k.k u = true) : ktO u = k ∧ EntOk w (keyH w k.k, u) := by
  rcases keyIs_shape h with ⟨i, t, e, rfl⟩ | ⟨x, t, e, rfl⟩
  · cases k with
    | i n =>
      simp only [Ky.k, Sum.inl.injEq] at e
      subst e
      exact ⟨rfl, h, rfl⟩
    | s y => simp [Ky.k] at e
  · cases k with
    | i n => simp [Ky.k] at e
    | s y =>
      simp only [Ky.k, Sum.inr.injEq] at e
      subst e
      have e2 : ktO (.str (S y) t) = .s y := by simp [ktO, S]
      exact ⟨e2, by
        show keyIs (ktO (.str (S y) t)).k _ = true ∧ _ = keyH w (ktO (.str (S y) t)).k
        rw [e2]; exact ⟨h, rfl⟩⟩
/-- the set at a with the keys ks -/
def SetW (w : World) (h : Heap) (a : Addr) (ks : List Ky) : Prop :=
  ∃ o es ep t, h.get? a = some o ∧ o.ExactSet ∧ o.data = .set es ep t ∧ (∀ e ∈ es.toList, EntOk w e) ∧ (es.toList.map fun e => ktO e.2).Perm ks ∧ ks.Nodup ∧
    es.size < scanBound ∧ t.fits es.size = true ∧ Ris t.place.toList ∧ (w.params.followText "set-order" = true ∨ t.led = true)
theorem SetW.at {w : World} {h h' : Heap} {a : Addr} {ks : List Ky} (R : SetW w h a ks) (k : ∀ o, h.get? a = some o → h'.get? a = some o) : SetW w h' a ks := by
  obtain ⟨o, es, ep, t, ho, r⟩ := R
  exact ⟨o, es, ep, t, k o ho, r⟩
section
variable {P : Program} {w : World} {A : Around} {E : Value → Shared → Prop} {s : Shared} {a : Addr} {ks : List Ky}
theorem ent_elems {l : List (Int × Value)} (g : ∀ e ∈ l, EntOk w e) : ElemsOf (mixKind P w) l := fun e he => by
  obtain ⟨h1, h2⟩ := g e he
  refine ⟨⟨_, h1, h2⟩, ?_⟩
  rcases keyIs_shape h1 with ⟨i, t, _, e⟩ | ⟨x, t, _, e⟩ <;> rw [e] <;> rfl
theorem ent_is {e : Int × Value} (g : EntOk w e) (k : Ky) : keyIs k.k e.2 = true ↔ ktO e.2 = k := by
  constructor
  · intro h; exact (ent_mk w h).1
  · rintro rfl; exact g.1
theorem setW_tail {g : Bool → PySem.Sem Unit} (hg : ∀ (b : Bool) (s₁ : Shared) (Q' : Unit → Shared → Prop), Q' () s₁ → wpAny (model P w) A (g b) Q' E s₁)
    {o : Obj} {es : Array (Int × Value)} {ep : Nat} {t : SetTable} (ho : s.heap.get? a = some o) (hex : o.ExactSet) (hd : o.data = .set es ep t)
    {es1 : Array (Int × Value)} {t2 : SetTable} {ks' : List Ky} (g1 : ∀ e ∈ es1.toList, EntOk w e) (p1 : (es1.toList.map fun e => ktO e.2).Perm ks') (nd1 : ks'.Nodup)
    (hb1 : es1.size < scanBound) (hf2 : t2.fits es1.size = true) (hr : Ris t2.place.toList) (hl : w.params.followText "set-order" = true ∨ t2.led = true) {wasDummy : Bool} {R : Option Bool → Shared → Prop}
    (hR : ∀ h', Heap.SameBut a s.heap h' → SetW w h' a ks' → R (some true) { s with heap := h' }) :
    wpAny (model P w) A (do
        storeSet a es1 t2
        if (!wasDummy && t2.tooFull) = true then do
            g (relayAll t2 es1 (SetTable.grown es1.size)).2.2
            storeSet a (relayAll t2 es1 (SetTable.grown es1.size)).1 (relayAll t2 es1 (SetTable.grown es1.size)).2.1
            pure (some true)
          else pure (some true)) R E s := by
  refine wpAny_bind (wpAny_storeSet_of ho hd ?_ (fits_of_scanBound hb1))
  have ho1 := store_at (es' := es1) (t' := t2) ho hd
  have sb1 := Heap.SameBut.update s.heap a (Obj.putSet es1 t2)
  split
  · have pm := relayAll_perm t2 es1 (SetTable.grown es1.size)
    have hf3 := relayAll_fits t2 es1 (SetTable.grown es1.size)
    have hr3 := relayAll_ris t2 es1 (SetTable.grown es1.size)
    have hl3 := relayAll_led t2 es1 (SetTable.grown es1.size)
    generalize relayAll t2 es1 (SetTable.grown es1.size) = Z at pm hf3 hr3 hl3 ⊢
    obtain ⟨es2, t3, gave⟩ := Z
    dsimp only at pm hf3 hr3 hl3 ⊢
    have hsz : es2.size = es1.size := by rw [← Array.length_toList, pm.length_eq, Array.length_toList]
    have hb2 : es2.size < scanBound := by rw [hsz]; exact hb1
    refine wpAny_bind (hg _ _ _ ?_)
    refine wpAny_bind (wpAny_storeSet_of ho1 rfl ?_ (fits_of_scanBound hb2))
    have ho2 := store_at (es' := es2) (t' := t3) ho1 rfl
    refine wpAny_pure (hR _ (sb1.trans (Heap.SameBut.update _ a _)) ?_)
    exact ⟨_, es2, _, t3, ho2, hex, rfl, fun e he => g1 e (pm.mem_iff.mp he), (pm.map _).trans p1, nd1, hb2, hf3, hr3, hl.imp id fun z => by rw [hl3]; exact z⟩
  · exact wpAny_pure (hR _ sb1 ⟨_, es1, _, t2, ho1, hex, rfl, g1, p1, nd1, hb1, hf2, hr, hl⟩)
theorem setW_add {k : Ky} {u : Value} {Q : Value → Shared → Prop} (hu : RelV (kV k.k) u) (R : SetW w s.heap a ks) (room : ks.length + 1 < scanBound)
    (hQ : ∀ h', Heap.SameBut a s.heap h' → SetW w h' a (addK ks k) → Q .none { s with heap := h', toks := s.toks + 1 }) :
    wpAny (model P w) A (call (.builtin "set.add") [.ref a, u]) Q E s := by
  have hkey : (mixKind P w).is k.k u = true := kV_is hu
  have hsc : u.scannable = true := key_scan hu
  obtain ⟨o, es, ep, t, ho, hex, hd, g, pm0, nd, hb, hf, hr, hl⟩ := R
  have hT : s.TypeIs (.ref a) "set" := ⟨o, ho, hex.1⟩
  refine wpAny_call_entry PySem.F.slot_set_add hT PySem.F.entry_set_add ?_ (PySem.F.args_set_add_2 _ _)
  unfold Builtin.«set.add» Builtin.Frozenset.oneOther
  simp only [List.isEmpty_nil, bind_assoc]
  unfold Builtin.Frozenset.addrOf setAdd
  refine wpAny_bind (wpAny_pure ?_)
  try dsimp only
  refine wpAny_bind (wpAny_pure ?_)
  try dsimp only
  refine wpAny_bind ?_
  refine wpAny_holding ?_
  refine wpAny_bind ((mixKind P w).pyHash hkey ?_)
  have back : ∀ {b : Bool} {h' : Heap} {A' : Around}, Q .none { s with heap := h', toks := s.toks + 1 } → wpAny (model P w) A' (ret Value.none) (fun fin s' => ∃ v, fin = PySem.Fin.done (Flow.ret v) ∧ Q v s') E { s with heap := h', toks := s.toks + 1 } := fun {b h' A'} q => wpAny_pure ⟨_, rfl, q⟩
  have hel : ElemsOf (mixKind P w) es.toList := ent_elems g
  have mem : k ∈ ks ↔ ∃ e ∈ es.toList, (mixKind P w).is k.k e.2 = true := by
    rw [← pm0.mem_iff, List.mem_map]
    constructor
    · rintro ⟨e, he, q⟩; exact ⟨e, he, (ent_is (g e he) k).mpr q⟩
    · rintro ⟨e, he, q⟩; exact ⟨e, he, (ent_is (g e he) k).mp q⟩
  unfold setAddHashed setAddHashedIn
  refine wpAny_holding (wpAny_bind (wpAny_setState_of (s := { s with toks := s.toks + 1 }) ho hd hf ?_))
  dsimp only
  rw [byScan_of hsc hb hel]
  simp only [↓reduceIte]
  unfold setAddByScan
  refine wpAny_bind ?_
  refine wpAny_bind (wpAny_rule ?_)
  refine wpAny_bind (wpAny_setScan_of hkey ho hd hf hel ?_)
  cases hfi : List.findIdx? (fun e => (mixKind P w).is k.k e.2) es.toList with
  | some j =>
    dsimp only
    obtain ⟨hj, pj, _⟩ := List.findIdx?_eq_some_iff_getElem.mp hfi
    have hk : k ∈ ks := mem.mpr ⟨es.toList[j], List.getElem_mem hj, pj⟩
    refine wpAny_pure (wpAny_pure ?_)
    refine back (b := true) (h' := s.heap) ?_
    refine hQ s.heap (Heap.SameBut.refl a s.heap) ?_
    unfold addK
    rw [if_pos hk]
    exact ⟨o, es, ep, t, ho, hex, hd, g, pm0, nd, hb, hf, hr, hl⟩
  | none =>
    dsimp only
    have hnk : k ∉ ks := fun z => by
      obtain ⟨e, he, q⟩ := mem.mp z
      have c := List.findIdx?_eq_none_iff.mp hfi e he
      rw [q] at c
      cases c
    have hgw : ∀ (b : Bool) {A' : Around} {s₁ : Shared} {Q' : Unit → Shared → Prop}, Q' () s₁ → wpAny (model P w) A' (match b with | true => rule "set.scan.the-table-gave-way" | false => pure ()) Q' E s₁ :=
      fun b A' s₁ Q' q => by cases b <;> first | exact wpAny_pure q | exact wpAny_rule q
    have pm := layNew_perm t es ((mixKind P w).hash k.k) u
    have hf1 := layNew_fits t es ((mixKind P w).hash k.k) u
    have hr1 := layNew_ris t es ((mixKind P w).hash k.k) u hr
    have hl1 := layNew_led t es ((mixKind P w).hash k.k) u
    generalize layNew t es ((mixKind P w).hash k.k) u = Z at pm hf1 hr1 hl1 ⊢
    obtain ⟨es1, t1, wasDummy, gave⟩ := Z
    dsimp only at pm hf1 hr1 hl1 ⊢
    rw [Array.toList_push] at pm
    obtain ⟨ek, eo⟩ := ent_mk w (k := k) hkey
    have g1 : ∀ e ∈ es1.toList, EntOk w e := fun e he => by
      rcases List.mem_append.mp (pm.mem_iff.mp he) with z | z
      · exact g e z
      · obtain rfl := mem_one' z
        exact eo
    have pk : (es1.toList.map fun e => ktO e.2).Perm (ks ++ [k]) := by
      have q := pm.map fun e : Int × Value => ktO e.2
      rw [List.map_append, List.map_cons, List.map_nil] at q
      rw [show ktO ((mixKind P w).hash k.k, u).2 = k from ek] at q
      exact q.trans (pm0.append_right [k])
    have nd1 : (ks ++ [k]).Nodup := by
      rw [List.nodup_append]
      exact ⟨nd, by simp, fun x hx y hy => by
        obtain rfl : y = k := by simpa using hy
        exact fun z => hnk (z ▸ hx)⟩
    have hsz : es1.size = ks.length + 1 := by
      have := pk.length_eq
      rw [List.length_map, Array.length_toList, List.length_append, List.length_singleton] at this
      exact this
    have hb1 : es1.size < scanBound := by rw [hsz]; exact room
    have hled : w.params.followText "set-order" = true ∨ t1.led = true := hl.imp id fun z => by rw [hl1]; exact z
    have ea : addK ks k = ks ++ [k] := if_neg hnk
    rw [ea] at hQ
    refine wpAny_bind (hgw _ ?_)
    split
    · refine wpAny_bind ?_
      rw [hashByValue_scannable 8 hsc]
      refine wpAny_pure ?_
      refine setW_tail (s := { s with toks := s.toks + 1 }) ?_ ho hex hd g1 pk nd1 hb1 ?_ ?_ ?_ ?_
      · intro b s₁ Q' q; cases b <;> first | exact wpAny_pure q | exact wpAny_rule q
      · first | (split <;> first | exact hf1 | exact SetTable.fits_plain_off hf1) | exact hf1
      · first | (split <;> exact hr1) | exact hr1
      · first | (split <;> exact hled) | exact hled
      · intro h' sb r; dsimp only; exact wpAny_pure (back (b := true) (hQ h' sb r))
    · refine wpAny_bind (wpAny_pure ?_)
      simp only [↓reduceIte]
      refine setW_tail (s := { s with toks := s.toks + 1 }) ?_ ho hex hd g1 pk nd1 hb1 hf1 hr1 hled ?_
      · intro b s₁ Q' q; cases b <;> first | exact wpAny_pure q | exact wpAny_rule q
      · intro h' sb r; dsimp only; exact wpAny_pure (back (b := true) (hQ h' sb r))
theorem setW_fresh {h : Heap} (w : World) : SetW w (h.push { cls := .type "set", dict := none, data := .set #[] 0 (.fresh 0 0 (!w.params.followText "set-order")) }) h.objs.size [] :=
  ⟨_, #[], 0, _, Heap.get?_push_size _ rfl, ⟨rfl, rfl, rfl⟩, rfl, by simp, by simp, .nil, by decide, rfl, .nil, by
    cases e : w.params.followText "set-order" with
    | true => exact .inl rfl
    | false => exact .inr rfl⟩
end
/-- the set as a thing of the heap -/
def SetX (w : World) (a : Addr) (ks : List Ky) : HO := .ext fun h => SetW w h a ks
section
variable {X : Cx}
theorem setX_new {w : World} {P : Program} {H : Hp} {h : Heap} {a : Addr} {ks : List Ky} (R : SetW w h a ks) : ObjOk P w H h a (SetX w a ks) := by
  have ⟨o, _, _, _, ho, _⟩ := R
  exact ⟨R, ⟨o, ho⟩, fun h1 h2 p k => SetW.at p k⟩
theorem setX_get {pins : List (Addr × Obj)} {σ : L2.St} {H : Hp} {s : Shared} {a : Addr} {ks : List Ky} (I : Inv X pins σ H s) (ha : H a = some (SetX X.w a ks)) : SetW X.w s.heap a ks := (I.hok a _ ha).1
theorem addX_ok {pins : List (Addr × Obj)} {σ : L2.St} {H : Hp} {s : Shared} {E : Value → Shared → Prop} {a : Addr} {ks : List Ky} {k : Ky} {u : Value} {Q : Value → Shared → Prop} (I : Inv X pins σ H s) (ha : H a = some (SetX X.w a ks)) (hu : RelV (kV k.k) u) (room : ks.length + 1 < scanBound)
    (h : ∀ s', Inv X pins σ (upd H a (SetX X.w a (addK ks k))) s' → Q .none s') : wpAny (model X.prog X.w) X.A (call (.builtin "set.add") [.ref a, u]) Q E s := by
  refine setW_add hu (setX_get I ha) room fun h' sb new => ?_
  have he : ∃ u, h'.get? a = some u := by
    have ⟨o, _, _, _, ho, _⟩ := new
    exact ⟨o, ho⟩
  exact h _ (I.write (e := a) (t' := s.toks + 1) (by rw [ha]; trivial) (.inl rfl) (fun b u hb hu => (sb.2 b hb).trans hu) he (setX_new new))
end
end TI
set_option Elab.async false
set_option linter.all false
set_option maxRecDepth 100000
set_option maxHeartbeats 4000000
namespace TI
open PySem PySem.Spec PyProof.Rows L2
section
variable {X : Cx} {Z : Spc}
/-- d[y] by values -/
theorem ix_dict (hu : X.A.units + 1 < cLine) : IxR X (fun x y H Q => ∃ a v, x = .ref a ∧ DGet H a y (some v) ∧ Q v H) := by
  intro value slice pins s σ H x y v u Q I rx ry h hs
  obtain ⟨a, w, rfl, g, q⟩ := h
  obtain rfl : v = Value.ref a := rx
  have hT := dict_typeIs I g
  unfold subscriptTail
  refine wpAny_bind ?_
  rw [getitemInPython_of_ne hT.not_modules]
  refine wpAny_bind (wpAny_specialOf hT PySem.F.slot_dict_getitem.lookup ?_)
  have fin : wpAny (model X.prog X.w) X.A (subscripted slice false (.ref a) u) (fun r s₃ => wpAny (model X.prog X.w) X.A (letTemporaryGo value (.ref a) r >>= fun _ => pure r) (EP X pins σ Q) X.xe s₃) X.xe s := by
    rw [hs]
    exact wpAny_operating (wpAny_mono (d_getItem (Q := EP X pins σ Q) (E := X.xe) hu I g ry fun w' s' I' r' => ⟨w, H, I', r', q⟩) (fun r s₃ h₃ => wpAny_bind (wpAny_letTemporaryGo (wpAny_pure h₃))) fun _ _ x => x)
  first
    | exact wpAny_pure (wpAny_bind fin)
    | exact wpAny_bind (wpAny_pure (wpAny_bind fin))
    | exact wpAny_bind fin
theorem ixr_sub (hu : X.A.units + 200 < cLine) : IxR X (rV2 X.K Z subD) := by
  intro value slice pins s σ H x y v u Q I rx ry h hs
  obtain ⟨B, d1, d2, d, g, h1, h2, bk, e, q⟩ := h
  unfold subD at e
  split at e
  · rename_i xs i
    obtain ⟨a, vs, rfl, e1, n1, l1⟩ := lst_of h1
    cases h2
    obtain ⟨e, _⟩ := opt_ok e
    obtain ⟨z, ez, hz⟩ := atI_den l1 e
    exact ix_list value slice pins s σ H _ _ v u Q I rx ry ⟨_, _, _, _, rfl, rfl, SqL.of e1, ez, q _ _ (Same.refl H) hz⟩ hs
  · rename_i xs i
    obtain ⟨a, vs, rfl, e1, l1⟩ := sqT_tup h1
    cases h2
    obtain ⟨e, _⟩ := opt_ok e
    obtain ⟨z, ez, hz⟩ := atI_den l1 e
    exact ix_tup value slice pins s σ H _ _ v u Q I rx ry ⟨_, _, _, _, rfl, rfl, SqT.of e1, ez, q _ _ (Same.refl H) hz⟩ hs
  · rename_i t i
    cases h1; cases h2
    obtain ⟨c, e⟩ := grd_ok e
    have c := of_decide_eq_true c
    rw [line_eq] at c
    cases ez : atI t i with
    | none => simp only [ez] at e; exact (stk_ok e).elim
    | some z =>
      simp only [ez] at e
      obtain ⟨rfl, _⟩ := pure_ok e
      exact ix_str value slice pins s σ H _ _ v u Q I rx ry ⟨_, _, z, rfl, rfl, by rw [S_len]; exact c, by rw [S_cps]; exact ez, q _ _ (Same.refl H) (.str [z])⟩ hs
  · cases hk : kyOf d2 with
    | none => simp only [hk] at e; exact (stk_ok e).elim
    | some k =>
      simp only [hk] at e
      obtain ⟨e, _⟩ := opt_ok e
      obtain ⟨p, o, rfl, g1, g2, g3⟩ := dget_K h1 h2 hk
      rw [e] at g3
      obtain ⟨w, rfl, hw⟩ := g3
      exact ix_dict (by omega) value slice pins s σ H _ _ v u Q I rx ry ⟨_, _, rfl, g1, q _ _ (Same.refl H) hw⟩ hs
  · cases hk : kyT d2 with
    | none => simp only [hk] at e; exact (stk_ok e).elim
    | some k =>
      simp only [hk] at e
      obtain ⟨e, _⟩ := opt_ok e
      obtain ⟨p, o, rfl, g1, g2, g3⟩ := dget_T h1 h2 hk
      rw [e] at g3
      obtain ⟨w, rfl, hw⟩ := g3
      exact ix_dict (by omega) value slice pins s σ H _ _ v u Q I rx ry ⟨_, _, rfl, g1, q _ _ (Same.refl H) hw⟩ hs
  · exact (stk_ok e).elim

def rSlD (K : PySem.W.Frag) (Z : Spc) : V → Option Int → Option Int → Hp → VK → Prop := fun x lo hi H Q => ∃ B d1 d g, Den K Z.r H B x d1 ∧ BOk B H ∧ slcD d1 lo hi g = .ok d g ∧ ∀ v H', Same H H' → Den K Z.r H' B v d → Q v H'
theorem whole_cut {α : Type} {xs : List α} {lo hi : Option Int} (h : HT.sIx xs.length 0 lo = 0 ∧ HT.sIx xs.length xs.length hi = xs.length) : cutL xs lo hi = xs := by
  unfold cutL
  rw [h.1, h.2]
  simp
theorem slr_slc : SlR X (rSlD X.K Z) := by
  intro pins s σ H x v vl vu lo hi sl Q I rx hs pl pu h
  obtain ⟨B, d1, d, g, h1, bk, e, q⟩ := h
  unfold slcD at e
  split at e
  · cases h1
    obtain ⟨c, e⟩ := grd_ok e
    obtain ⟨rfl, _⟩ := pure_ok e
    have c := of_decide_eq_true c
    rw [line_eq] at c
    exact sl_str pins s σ H _ v vl vu lo hi sl Q I rx hs pl pu ⟨_, rfl, by rw [S_len]; exact c, by rw [cutS_cut]; exact q _ _ (Same.refl H) (.str _)⟩
  · obtain ⟨rfl, _⟩ := pure_ok e
    obtain ⟨a, vs, rfl, e1, n1, l1⟩ := lst_of h1
    exact sl_list pins s σ H _ v vl vu lo hi sl Q I rx hs pl pu ⟨_, _, rfl, SqL.of e1, fun p np => q _ _ (same_upd np) (den_newL bk np (l1.cut _ _))⟩
  · obtain ⟨rfl, _⟩ := pure_ok e
    obtain ⟨a, vs, rfl, e1, l1⟩ := sqT_tup h1
    refine sl_tupA pins s σ H _ v vl vu lo hi sl Q I rx hs pl pu ⟨_, _, rfl, SqT.of e1, fun z => ?_, fun z p np => q _ _ (same_upd np) (den_newT bk np (l1.cut _ _))⟩
    rw [l1.length] at z
    rw [whole_cut z] at q
    exact q _ _ (Same.refl H) h1
  · exact (stk_ok e).elim

/-! ### built-ins by values -/
def rVL (K : PySem.W.Frag) (Z : Spc) (fr : Bool) (f : List D → M D) : List V → Hp → VK → Prop := fun vs H Q => ∃ B ds d g, DenL K Z.r H B vs ds ∧ BOk B H ∧ f ds g = .ok d g ∧ ∀ v H', Same H H' → Den K Z.r H' B v d → (fr = true → ∃ p, v = .ref p ∧ H p = none) → Q v H'
theorem ints_of : ∀ {ds : List D} {ns : List Int}, intsOf ds = some ns → ds = ns.map D.int
  | [], ns, h => by cases h; rfl
  | d :: ds, ns, h => by
    unfold intsOf at h
    split at h
    · rename_i q; cases q
    · rename_i i ds' q
      cases q
      cases e : intsOf ds with
      | none => rw [e] at h; cases h
      | some ms => rw [e] at h; cases h; rw [ints_of e]; rfl
    · cases h
theorem bls_of : ∀ {ds : List D} {ns : List Bool}, blsOf ds = some ns → ds = ns.map D.bl
  | [], ns, h => by cases h; rfl
  | d :: ds, ns, h => by
    unfold blsOf at h
    split at h
    · rename_i q; cases q
    · rename_i i ds' q
      cases q
      cases e : blsOf ds with
      | none => rw [e] at h; cases h
      | some ms => rw [e] at h; cases h; rw [bls_of e]; rfl
    · cases h
theorem strs_of : ∀ {ds : List D} {ns : List (List Nat)}, strsOf ds = some ns → ds = ns.map D.str
  | [], ns, h => by cases h; rfl
  | d :: ds, ns, h => by
    unfold strsOf at h
    split at h
    · rename_i q; cases q
    · rename_i i ds' q
      cases q
      cases e : strsOf ds with
      | none => rw [e] at h; cases h
      | some ms => rw [e] at h; cases h; rw [strs_of e]; rfl
    · cases h
theorem maxI_spec : ∀ (ns : List Int) (m : Int), maxI m ns ∈ m :: ns ∧ ∀ y ∈ m :: ns, y ≤ maxI m ns
  | [], m => by simp [maxI]
  | n :: ns, m => by
    simp only [maxI]
    have hx : ∀ x, x = (if m < n then n else m) → (x = n ∨ x = m) ∧ m ≤ x ∧ n ≤ x := fun x e => by
      split at e <;> omega
    generalize hz : (if m < n then n else m) = x
    obtain ⟨e1, e2, e3⟩ := hx x hz.symm
    obtain ⟨h1, h2⟩ := maxI_spec ns x
    have hb := h2 x List.mem_cons_self
    constructor
    · rcases List.mem_cons.mp h1 with e | e
      · rw [e]; rcases e1 with rfl | rfl <;> simp
      · exact List.mem_cons_of_mem _ (List.mem_cons_of_mem _ e)
    · intro y hy
      rcases List.mem_cons.mp hy with rfl | hy
      · omega
      · rcases List.mem_cons.mp hy with rfl | hy
        · omega
        · exact h2 y (List.mem_cons_of_mem _ hy)
theorem minI_spec : ∀ (ns : List Int) (m : Int), minI m ns ∈ m :: ns ∧ ∀ y ∈ m :: ns, minI m ns ≤ y
  | [], m => by simp [minI]
  | n :: ns, m => by
    simp only [minI]
    have hx : ∀ x, x = (if n < m then n else m) → (x = n ∨ x = m) ∧ x ≤ m ∧ x ≤ n := fun x e => by
      split at e <;> omega
    generalize hz : (if n < m then n else m) = x
    obtain ⟨e1, e2, e3⟩ := hx x hz.symm
    obtain ⟨h1, h2⟩ := minI_spec ns x
    have hb := h2 x List.mem_cons_self
    constructor
    · rcases List.mem_cons.mp h1 with e | e
      · rw [e]; rcases e1 with rfl | rfl <;> simp
      · exact List.mem_cons_of_mem _ (List.mem_cons_of_mem _ e)
    · intro y hy
      rcases List.mem_cons.mp hy with rfl | hy
      · omega
      · rcases List.mem_cons.mp hy with rfl | hy
        · omega
        · exact h2 y (List.mem_cons_of_mem _ hy)
theorem den1 {K : PySem.W.Frag} {r : Addr} {H : Hp} {B : Addr → Prop} {vs : List V} {d : D} (h : DenL K r H B vs [d]) : ∃ v, vs = [v] ∧ Den K r H B v d := by
  cases h with
  | cons h1 h2 => cases h2; exact ⟨_, rfl, h1⟩
theorem den2 {K : PySem.W.Frag} {r : Addr} {H : Hp} {B : Addr → Prop} {vs : List V} {d e : D} (h : DenL K r H B vs [d, e]) : ∃ v w, vs = [v, w] ∧ Den K r H B v d ∧ Den K r H B w e := by
  cases h with
  | cons h1 h2 =>
    obtain ⟨w, rfl, h3⟩ := den1 h2
    exact ⟨_, _, rfl, h1, h3⟩
theorem len_dK {pins : List (Addr × Obj)} {s : Shared} {σ : L2.St} {H : Hp} {a : Addr} {kvs : List (Key × V)} {Q : VK} (I : Inv X pins σ H s) (h : H a = some (.dK kvs)) (q : Q (.int kvs.length) H) :
    wpAny (model X.prog X.w) X.A (call (.builtin "len") [.ref a]) (EP X pins σ Q) X.xe s :=
  call_lenD pins s σ H [.ref a] [.ref a] Q I (.cons rfl .nil) ⟨a, kvs, rfl, h, q⟩
theorem sum_tupG {prog : Program} {w : World} {A : Around} {E : Value → Shared → Prop} {s : Shared} {l : Addr} {its : List Value} {ns : List Int} {Q : Value → Shared → Prop} (hh : A.handled = none) (hl : s.heap.IsTuple l its.toArray) (hi : IntsAre its ns)
    (h : ∀ h' tk t', (∀ b o, s.heap.get? b = some o → h'.get? b = some o) → Q (.int ns.sum t') { s with heap := h', toks := tk }) : wpAny (model prog w) A (call (.builtin "sum") [.ref l]) Q E s := by
  obtain ⟨xs, e⟩ := hi.allInts.items
  have hn : numsOf (intItems xs).toList = ns := by rw [← e]; exact hi.numsOf
  rw [nums_intItems] at hn
  rw [e] at hl
  have hlt : l < s.heap.objs.size := by obtain ⟨_, e, _⟩ := hl; exact Heap.lt_size e
  have old : ∀ {h' : Heap}, (∀ b o, b ∉ [s.heap.objs.size] → (s.heap.push { cls := .type "tuple_iterator", data := .fields #[.ref l, .int 0 0] }).get? b = some o → h'.get? b = some o) → ∀ b o, s.heap.get? b = some o → h'.get? b = some o := fun {h'} hk b o e => by
    refine hk b o (fun hm => ?_) (Heap.get?_push_of_some _ e)
    obtain rfl := mem_one' hm
    exact absurd (Heap.lt_size e) (Nat.lt_irrefl _)
  refine call_sum_walkG (wpAny_pyIter_tuple hl ?_)
  refine ⟨_, [_, l], [_], _, _, _, numAt xs, rfl, Walks.tuple (A := A.in1) hh _ l (Nat.ne_of_lt hlt) (intItems xs), ⟨⟨_, Heap.get?_push_size _ rfl, rfl, rfl⟩, hl.push _⟩, fun b hb => ?_, (fun _ _ => intItems_at), fun h' tk t' hk => ?_⟩
  · show b < (s.heap.push _).objs.size
    rw [Heap.size_push]
    rcases List.mem_cons.mp hb with rfl | hb
    · exact Nat.lt_succ_self _
    · obtain rfl := mem_one' hb
      exact Nat.lt_succ_of_lt hlt
  · have := h h' tk t' (old hk)
    rw [show ns.sum = preSum (numAt xs) (intItems xs).size from by rw [preSum_eq, List.take_of_length_le (by simp [intItems]), hn]] at this
    exact this
def Bl.val : Bl → Value
  | .len => .builtin "len" | .sum => .builtin "sum" | .max => .builtin "max" | .min => .builtin "min" | .abs => .builtin "abs" | .int => .type "int" | .tuple => .type "tuple" | .list => .type "list" | .any => .builtin "any" | .all => .builtin "all" | .ord => .builtin "ord" | .sorted => .builtin "sorted"
def Bl.fresh : Bl → Bool
  | .list | .sorted => true
  | _ => false
theorem callr_blt (hc : X.calm = true) (b : Bl) : CallR X b.val (rVL X.K Z b.fresh (bltD b)) := by
  intro pins s σ H vs us Q I rs h
  obtain ⟨B, ds, d, g, h1, bk, e, q⟩ := h
  have nf : b.fresh = false → ∀ v H', Same H H' → Den X.K Z.r H' B v d → Q v H' := fun z v H' a b => q v H' a b fun y => by rw [z] at y; cases y
  unfold bltD at e
  split at e
  case h_1 t =>
    obtain ⟨v, rfl, k1⟩ := den1 h1
    cases k1
    obtain ⟨c, e⟩ := grd_ok e
    obtain ⟨rfl, _⟩ := pure_ok e
    have c := of_decide_eq_true c
    rw [line_eq] at c
    exact call_len pins s σ H _ us Q I rs ⟨_, _, rfl, ⟨by rw [S_len]; exact c, rfl⟩, by rw [S_len]; exact nf rfl _ _ (Same.refl H) (.int _)⟩
  case h_2 xs =>
    obtain ⟨v, rfl, k1⟩ := den1 h1
    obtain ⟨a, ws, rfl, e1, n1, l1⟩ := lst_of k1
    obtain ⟨rfl, _⟩ := pure_ok e
    exact call_len pins s σ H _ us Q I rs ⟨_, _, rfl, .inl ⟨_, SqL.of e1, rfl⟩, by rw [l1.length]; exact nf rfl _ _ (Same.refl H) (.int _)⟩
  case h_3 xs =>
    obtain ⟨v, rfl, k1⟩ := den1 h1
    obtain ⟨a, ws, rfl, e1, l1⟩ := sqT_tup k1
    obtain ⟨rfl, _⟩ := pure_ok e
    exact call_len pins s σ H _ us Q I rs ⟨_, _, rfl, .inr ⟨_, SqT.of e1, rfl⟩, by rw [l1.length]; exact nf rfl _ _ (Same.refl H) (.int _)⟩
  case h_4 ks vs' =>
    obtain ⟨v, rfl, k1⟩ := den1 h1
    obtain ⟨rfl, _⟩ := pure_ok e
    cases k1 with
    | dK k2 n1 e1 l1 =>
      have := congrArg List.length e1
      rw [List.length_map, List.length_map] at this
      exact call_lenD pins s σ H _ us Q I rs ⟨_, _, rfl, k2, by rw [this]; exact nf rfl _ _ (Same.refl H) (.int _)⟩
  case h_5 xs =>
    obtain ⟨v, rfl, k1⟩ := den1 h1
    obtain ⟨a, ws, rfl, e1, n1, l1⟩ := lst_of k1
    cases en : intsOf xs with
    | none => simp only [en] at e; exact (stk_ok e).elim
    | some ns =>
      simp only [en] at e
      obtain ⟨rfl, _⟩ := pure_ok e
      cases ints_of en
      rw [l1.ints] at e1
      exact cr_sum hc pins s σ H _ us Q I rs ⟨_, _, rfl, SqL.of e1, nf rfl _ _ (Same.refl H) (.int _)⟩
  case h_6 xs =>
    obtain ⟨v, rfl, k1⟩ := den1 h1
    obtain ⟨a, ws, rfl, e1, n1, l1⟩ := lst_of k1
    cases en : intsOf xs with
    | none => simp only [en] at e; exact (stk_ok e).elim
    | some ns =>
      cases ns with
      | nil => simp only [en] at e; exact (stk_ok e).elim
      | cons n ns =>
        simp only [en] at e
        obtain ⟨rfl, _⟩ := pure_ok e
        cases ints_of en
        rw [l1.ints] at e1
        refine cr_max hc pins s σ H _ us Q I rs ⟨_, _, rfl, SqL.of e1, by simp, fun m hm hM => ?_⟩
        obtain ⟨m1, m2⟩ := maxI_spec ns n
        have : m = maxI n ns := Int.le_antisymm (m2 m hm) (hM _ m1)
        rw [this]
        exact nf rfl _ _ (Same.refl H) (.int _)
  case h_7 xs =>
    obtain ⟨v, rfl, k1⟩ := den1 h1
    obtain ⟨a, ws, rfl, e1, n1, l1⟩ := lst_of k1
    cases en : intsOf xs with
    | none => simp only [en] at e; exact (stk_ok e).elim
    | some ns =>
      cases ns with
      | nil => simp only [en] at e; exact (stk_ok e).elim
      | cons n ns =>
        simp only [en] at e
        obtain ⟨rfl, _⟩ := pure_ok e
        cases ints_of en
        rw [l1.ints] at e1
        refine cr_min hc pins s σ H _ us Q I rs ⟨_, _, rfl, SqL.of e1, by simp, fun m hm hM => ?_⟩
        obtain ⟨m1, m2⟩ := minI_spec ns n
        have : m = minI n ns := Int.le_antisymm (hM _ m1) (m2 m hm)
        rw [this]
        exact nf rfl _ _ (Same.refl H) (.int _)
  case h_8 i j =>
    obtain ⟨v, w, rfl, k1, k2⟩ := den2 h1
    cases k1; cases k2
    obtain ⟨rfl, _⟩ := pure_ok e
    exact call_max2 hc pins s σ H _ us Q I rs ⟨_, _, rfl, nf rfl _ _ (Same.refl H) (.int _)⟩
  case h_9 i j =>
    obtain ⟨v, w, rfl, k1, k2⟩ := den2 h1
    cases k1; cases k2
    obtain ⟨rfl, _⟩ := pure_ok e
    exact call_min2 hc pins s σ H _ us Q I rs ⟨_, _, rfl, nf rfl _ _ (Same.refl H) (.int _)⟩
  case h_10 i =>
    obtain ⟨v, rfl, k1⟩ := den1 h1
    cases k1
    obtain ⟨rfl, _⟩ := pure_ok e
    exact call_abs pins s σ H _ us Q I rs ⟨_, rfl, nf rfl _ _ (Same.refl H) (.int _)⟩
  case h_11 i =>
    obtain ⟨v, rfl, k1⟩ := den1 h1
    cases k1
    obtain ⟨rfl, _⟩ := pure_ok e
    exact call_int1 pins s σ H _ us Q I rs (.inl ⟨_, rfl, nf rfl _ _ (Same.refl H) (.int _)⟩)
  case h_12 k =>
    obtain ⟨v, rfl, k1⟩ := den1 h1
    cases k1
    obtain ⟨rfl, _⟩ := pure_ok e
    exact call_int1 pins s σ H _ us Q I rs (.inr ⟨_, rfl, nf rfl _ _ (Same.refl H) (.int _)⟩)
  case h_13 xs =>
    obtain ⟨v, rfl, k1⟩ := den1 h1
    obtain ⟨a, ws, rfl, e1, n1, l1⟩ := lst_of k1
    obtain ⟨rfl, _⟩ := pure_ok e
    exact call_tuple_of pins s σ H _ us Q I rs ⟨_, _, rfl, .inl ⟨SqL.of e1, fun p np => nf rfl _ _ (same_upd np) (den_newT bk np l1)⟩⟩
  case h_14 xs =>
    obtain ⟨v, rfl, k1⟩ := den1 h1
    obtain ⟨a, ws, rfl, e1, l1⟩ := sqT_tup k1
    obtain ⟨rfl, _⟩ := pure_ok e
    exact call_tuple_of pins s σ H _ us Q I rs ⟨_, _, rfl, .inr ⟨SqT.of e1, nf rfl _ _ (Same.refl H) k1⟩⟩
  case h_15 xs =>
    obtain ⟨v, rfl, k1⟩ := den1 h1
    obtain ⟨a, ws, rfl, e1, n1, l1⟩ := lst_of k1
    obtain ⟨rfl, _⟩ := pure_ok e
    exact call_list_of pins s σ H _ us Q I rs ⟨_, _, rfl, .inl (SqL.of e1), fun p np => q _ _ (same_upd np) (den_newL bk np l1) fun _ => ⟨p, rfl, np⟩⟩
  case h_16 xs =>
    obtain ⟨v, rfl, k1⟩ := den1 h1
    obtain ⟨a, ws, rfl, e1, l1⟩ := sqT_tup k1
    obtain ⟨rfl, _⟩ := pure_ok e
    exact call_list_of pins s σ H _ us Q I rs ⟨_, _, rfl, .inr (SqT.of e1), fun p np => q _ _ (same_upd np) (den_newL bk np l1) fun _ => ⟨p, rfl, np⟩⟩
  case h_17 xs =>
    obtain ⟨v, rfl, k1⟩ := den1 h1
    obtain ⟨a, ws, rfl, e1, n1, l1⟩ := lst_of k1
    cases en : blsOf xs with
    | none => simp only [en] at e; exact (stk_ok e).elim
    | some ns =>
      simp only [en] at e
      obtain ⟨rfl, _⟩ := pure_ok e
      cases bls_of en
      rw [l1.bls] at e1
      exact cr_any hc pins s σ H _ us Q I rs ⟨_, _, rfl, SqL.of e1, nf rfl _ _ (Same.refl H) (.bl _)⟩
  case h_18 xs =>
    obtain ⟨v, rfl, k1⟩ := den1 h1
    obtain ⟨a, ws, rfl, e1, n1, l1⟩ := lst_of k1
    cases en : blsOf xs with
    | none => simp only [en] at e; exact (stk_ok e).elim
    | some ns =>
      simp only [en] at e
      obtain ⟨rfl, _⟩ := pure_ok e
      cases bls_of en
      rw [l1.bls] at e1
      exact cr_all hc pins s σ H _ us Q I rs ⟨_, _, rfl, SqL.of e1, nf rfl _ _ (Same.refl H) (.bl _)⟩
  case h_19 c =>
    obtain ⟨v, rfl, k1⟩ := den1 h1
    cases k1
    obtain ⟨rfl, _⟩ := pure_ok e
    refine call_ord pins s σ H _ us Q I rs ⟨_, rfl, by simp [S, Str.length], ?_⟩
    have : (S [c]).cps.getD 0 0 = c := rfl
    rw [this]
    exact nf rfl _ _ (Same.refl H) (.int _)
  case h_20 xs =>
    obtain ⟨v, rfl, k1⟩ := den1 h1
    obtain ⟨a, ws, rfl, e1, l1⟩ := sqT_tup k1
    cases en : intsOf xs with
    | none => simp only [en] at e; exact (stk_ok e).elim
    | some ns =>
      simp only [en] at e
      obtain ⟨rfl, _⟩ := pure_ok e
      cases ints_of en
      rw [l1.ints] at e1
      obtain rfl := Vals.ref1 rs
      obtain ⟨its, rv, p', hz⟩ := I.tuple (SqT.of e1)
      refine sum_tupG (I.ok.hd hc) (show s.heap.IsTuple a its.toArray from p') rv.ints fun h' tk t' hk => ?_
      exact ⟨.int ns.sum, H, I.kept (t' := tk) hk, ⟨_, rfl⟩, nf rfl _ _ (Same.refl H) (.int _)⟩
  case h_21 xs =>
    obtain ⟨v, rfl, k1⟩ := den1 h1
    obtain ⟨a, ws, rfl, e1, n1, l1⟩ := lst_of k1
    obtain ⟨c, e⟩ := grd_ok e
    obtain ⟨rfl, _⟩ := pure_ok e
    obtain rfl := Vals.ref1 rs
    exact sorted_list I (SqL.of e1) bk l1 c fun v H' sm n' ex => q v H' sm n' fun _ => ex
  case h_22 ks vs' =>
    obtain ⟨v, rfl, k1⟩ := den1 h1
    obtain ⟨c, e⟩ := grd_ok e
    obtain ⟨rfl, _⟩ := pure_ok e
    cases k1 with
    | dK k2 n1 e1 l1 =>
      obtain rfl := Vals.ref1 rs
      exact sorted_dk hc I k2 e1 bk c fun v H' sm n' ex => q v H' sm n' fun _ => ex
  case h_23 => exact (stk_ok e).elim
end
end TI
set_option Elab.async false
set_option linter.all false
set_option maxRecDepth 100000
set_option maxHeartbeats 4000000
/-! that a term is a piece of the text -/
namespace TI
open PySem PySem.Spec PyProof.Rows L2

def plainE : Expr → Bool
  | .Starred _ _ | .Slice _ _ _ _ | .Set _ _ _ | .NamedExpr _ _ _ | .Await _ _ | .Yield _ _ | .YieldFrom _ _ => false
  | .Call (.Name _ _) [] [] _ => false
  | _ => true
def isLocK : Option NameKind → Bool
  | some .local | some .cell | some .free => true
  | _ => false
def mName (N : List Str) (sc : Scope) (i : Nat) (x : Str) : Bool := decide (N[i]? = some x) && (isLocK (sc.names.lookup x) && (!(x == ("__debug__" : Str)) && !(x == ("__classdict__" : Str))))
def mGlo (sc : Scope) (x : Str) : Bool := decide (sc.names.lookup x = some .globalImplicit) && (!(x == ("__debug__" : Str)) && decide (x ≠ ("__name__" : Str)))
def Tgs.len : Tgs → Nat
  | .nil => 0
  | .cons _ ts => ts.len + 1
mutual
def mT (N : List Str) (sc : Scope) : Tg → Expr → Bool
  | .nm i, .Name x _ => decide (N[i]? = some x) && (decide (sc.names.lookup x = some .local) || decide (sc.names.lookup x = some .cell))
  | .tp ts, .Tuple es _ _ => mTs N sc ts es
  | _, _ => false
def mTs (N : List Str) (sc : Scope) : Tgs → List Expr → Bool
  | .nil, [] => true
  | .cons t ts, e :: es => mT N sc t e && mTs N sc ts es
  | _, _ => false
end
def mTys (sc : Scope) : List Ty → List Expr → Bool
  | [], [] => true
  | t :: ts, .Name x _ :: es => decide (x = t.name) && (mGlo sc x && mTys sc ts es)
  | _, _ => false
/-- a walk that gives new pairs wants a tuple as its target -/
def okTg : It → Tg → Bool
  | .enu _, .nm _ => false
  | .zip _ _, .nm _ => false
  | _, _ => true
mutual
def mE (N : List Str) (sc : Scope) : Ex → Expr → Bool
  | .var i, q => plainE q && (match q with
    | .Name x _ => mName N sc i x
    | _ => false)
  | .con c, q => plainE q && (match q with
    | .Constant c' _ _ => decide (c = c')
    | _ => false)
  | .glo x _, q => plainE q && (match q with
    | .Name y _ => decide (x = y) && mGlo sc y
    | _ => false)
  | .bin o a b, q => plainE q && (match q with
    | .BinOp l o' r _ => decide (o = o') && (mE N sc a l && mE N sc b r)
    | _ => false)
  | .neg a, q => plainE q && (match q with
    | .UnaryOp .USub x _ => mE N sc a x
    | _ => false)
  | .nt a, q => plainE q && (match q with
    | .UnaryOp .Not x _ => mE N sc a x
    | _ => false)
  | .cmp o a b, q => plainE q && (match q with
    | .Compare l [o'] [r] _ => decide (o = o') && (mE N sc a l && mE N sc b r)
    | _ => false)
  | .cmp2 o p a b c, q => plainE q && (match q with
    | .Compare l [o', p'] [m, r] _ => decide (o = o') && (decide (p = p') && (mE N sc a l && (mE N sc b m && mE N sc c r)))
    | _ => false)
  | .cmp3 o p p2 a b c d, q => plainE q && (match q with
    | .Compare l [o', p', p2'] [m, r, t] _ => decide (o = o') && (decide (p = p') && (decide (p2 = p2') && (mE N sc a l && (mE N sc b m && (mE N sc c r && mE N sc d t)))))
    | _ => false)
  | .and es, q => plainE q && (match q with
    | .BoolOp .And vs _ => mEs N sc es vs
    | _ => false)
  | .or es, q => plainE q && (match q with
    | .BoolOp .Or vs _ => mEs N sc es vs
    | _ => false)
  | .ite c a b, q => plainE q && (match q with
    | .IfExp c' a' b' _ => mE N sc c c' && (mE N sc a a' && mE N sc b b')
    | _ => false)
  | .tup es, q => plainE q && (match q with
    | .Tuple vs _ _ => mEs N sc es vs
    | _ => false)
  | .lst es, q => plainE q && (match q with
    | .List vs _ => mEs N sc es vs
    | _ => false)
  | .sub a i, q => plainE q && (match q with
    | .Subscript v s _ => mE N sc a v && mE N sc i s
    | _ => false)
  | .slc a lo hi, q => plainE q && (match q with
    | .Subscript v (.Slice l u none _) _ => mE N sc a v && (mO N sc lo l && mO N sc hi u)
    | _ => false)
  | .rvs a, q => plainE q && (match q with
    | .Subscript v (.Slice none none (some (.UnaryOp .USub (.Constant (.int 1) _ _) _)) _) _ => mE N sc a v
    | _ => false)
  | .call x _ es, q => plainE q && (match q with
    | .Call (.Name y _) (v :: vs) [] _ => decide (x = y) && (mGlo sc y && mEs N sc es (v :: vs))
    | _ => false)
  | .blt b es, q => plainE q && (match q with
    | .Call (.Name y _) (v :: vs) [] _ => decide (y = b.name) && (mGlo sc y && mEs N sc es (v :: vs))
    | _ => false)
  | .met m a es, q => plainE q && (match q with
    | .Call (.Attribute o nm ap) (v :: vs) [] cp => decide (nm = m.name) && (mE N sc a o && (mEs N sc es (v :: vs) && ((ap.endLine == cp.line) && decide (vs.length < 20))))
    | _ => false)
  | .isi a [t] true, q => plainE q && (match q with
    | .Call (.Name y _) [v, .Name z _] [] _ => decide (y = ("isinstance" : Str)) && (mGlo sc y && (mE N sc a v && mTys sc [t] [.Name z ⟨0, 0, 0, 0⟩]))
    | _ => false)
  | .isi a ts false, q => plainE q && (match q with
    | .Call (.Name y _) [v, .Tuple vs _ _] [] _ => decide (y = ("isinstance" : Str)) && (mGlo sc y && (mE N sc a v && mTys sc ts vs))
    | _ => false)
  | .comp tg it c e own, q => plainE q && (match q with
    | .ListComp elt [⟨t, i, ifs, z⟩] scope _ => decide (z = 0) && (okTg it tg && (mI N sc it i && (blkC N sc scope own && (mT N scope tg t && (tg.ws.all (own.map (·.2)).contains && (mC N (relS scope sc) c ifs && mE N (relS scope sc) e elt))))))
    | _ => false)
  | .dic _, q => plainE q && (match q with
    | .Dict [] [] _ => true
    | _ => false)
  | .ssc tg it c e own, q => plainE q && (match q with
    | .Call (.Name y _) [.SetComp elt [⟨t, i, ifs, z⟩] scope _] [] _ => decide (y = ("sorted" : Str)) && (mGlo sc y && (decide (z = 0) && (okTg it tg && (mI N sc it i && (blkC N sc scope own && (mT N scope tg t && (tg.ws.all (own.map (·.2)).contains && (mC N (relS scope sc) c ifs && mE N (relS scope sc) e elt))))))))
    | _ => false)
  | .keyl i x, q => plainE q && (match q with
    | .ListComp (.Name y _) [⟨.Name y2 p2, .Name n _, [], z⟩] scope _ => decide (z = 0) && (mName N sc i n && (blkC N sc scope [(y2, x)] && (mT N scope (.nm x) (.Name y2 p2) && mName N (relS scope sc) x y)))
    | _ => false)
  | .mxd a d, q => plainE q && (match q with
    | .Call (.Name y _) [v] [⟨some kw, .Constant (.int k) _ _, _⟩] _ => decide (y = ("max" : Str)) && (decide (kw = ("default" : Str)) && (decide (k = d) && (mGlo sc y && mE N sc a v)))
    | _ => false)
  | _, _ => false
def mEs (N : List Str) (sc : Scope) : Exs → List Expr → Bool
  | .nil, [] => true
  | .cons e es, a :: as => mE N sc e a && mEs N sc es as
  | _, _ => false
def mO (N : List Str) (sc : Scope) : Op → Option Expr → Bool
  | .no, none => true
  | .so e, some a => mE N sc e a
  | _, _ => false
def mC (N : List Str) (sc : Scope) : Op → List Expr → Bool
  | .no, [] => true
  | .so e, [a] => mE N sc e a
  | _, _ => false
def mI (N : List Str) (sc : Scope) : It → Expr → Bool
  | .of e, a => mE N sc e a
  | .rng es, .Call (.Name y _) (v :: vs) [] _ => decide (y = ("range" : Str)) && (mGlo sc y && (decide (vs.length < 3) && mEs N sc es (v :: vs)))
  | .enu e, .Call (.Name y _) [v] [] _ => decide (y = ("enumerate" : Str)) && (mGlo sc y && mE N sc e v)
  | .zip a b, .Call (.Name y _) [v, w] [] _ => decide (y = ("zip" : Str)) && (mGlo sc y && (mE N sc a v && mE N sc b w))
  | .rev e, .Call (.Name y _) [v] [] _ => decide (y = ("reversed" : Str)) && (mGlo sc y && mE N sc e v)
  | _, _ => false
end
/-! what is called, what constants are read -/
mutual
def Ex.calls : Ex → List (Str × Sem)
  | .var _ | .con _ | .glo _ _ | .dic _ | .keyl _ _ => []
  | .bin _ a b | .cmp _ a b | .sub a b => a.calls ++ b.calls
  | .neg a | .nt a | .rvs a | .isi a _ _ => a.calls
  | .cmp2 _ _ a b c | .ite a b c => a.calls ++ (b.calls ++ c.calls)
  | .cmp3 _ _ _ a b c d => a.calls ++ (b.calls ++ (c.calls ++ d.calls))
  | .and es | .or es | .tup es | .lst es | .blt _ es => es.calls
  | .call x f es => (x, f) :: es.calls
  | .slc a lo hi => a.calls ++ (lo.calls ++ hi.calls)
  | .met _ a es => a.calls ++ es.calls
  | .comp _ it c e _ | .ssc _ it c e _ => it.calls ++ (c.calls ++ e.calls)
  | .mxd a _ => a.calls
def Exs.calls : Exs → List (Str × Sem)
  | .nil => []
  | .cons e es => e.calls ++ es.calls
def Op.calls : Op → List (Str × Sem)
  | .no => []
  | .so e => e.calls
def It.calls : It → List (Str × Sem)
  | .of e | .enu e | .rev e => e.calls
  | .rng es => es.calls
  | .zip a b => a.calls ++ b.calls
end
mutual
def Ex.globs : Ex → List (Str × D)
  | .var _ | .con _ | .dic _ | .keyl _ _ => []
  | .glo x d => [(x, d)]
  | .bin _ a b | .cmp _ a b | .sub a b => a.globs ++ b.globs
  | .neg a | .nt a | .rvs a | .isi a _ _ => a.globs
  | .cmp2 _ _ a b c | .ite a b c => a.globs ++ (b.globs ++ c.globs)
  | .cmp3 _ _ _ a b c d => a.globs ++ (b.globs ++ (c.globs ++ d.globs))
  | .and es | .or es | .tup es | .lst es | .blt _ es => es.globs
  | .call x f es => es.globs
  | .slc a lo hi => a.globs ++ (lo.globs ++ hi.globs)
  | .met _ a es => a.globs ++ es.globs
  | .comp _ it c e _ | .ssc _ it c e _ => it.globs ++ (c.globs ++ e.globs)
  | .mxd a _ => a.globs
def Exs.globs : Exs → List (Str × D)
  | .nil => []
  | .cons e es => e.globs ++ es.globs
def Op.globs : Op → List (Str × D)
  | .no => []
  | .so e => e.globs
def It.globs : It → List (Str × D)
  | .of e | .enu e | .rev e => e.globs
  | .rng es => es.globs
  | .zip a b => a.globs ++ b.globs
end
theorem star_cons {a : Expr} {es : List Expr} {env : Env} (h : plainE a = true) : starEach (a :: es) env = (false, eval a env) :: starEach es env := by
  cases a <;> first | rfl | cases h
theorem mE_plain {N : List Str} {sc : Scope} {e : Ex} {a : Expr} (h : mE N sc e a = true) : plainE a = true := by
  unfold mE at h
  split at h <;> first | exact (Bool.and_eq_true_iff.mp h).1 | exact absurd h Bool.false_ne_true
theorem mEs_plain {N : List Str} {sc : Scope} : ∀ {es : Exs} {as : List Expr}, mEs N sc es as = true → ∀ a ∈ as, plainE a = true
  | .nil, [], _ => by simp
  | .nil, _ :: _, h => by simp [mEs] at h
  | .cons _ _, [], h => by simp [mEs] at h
  | .cons e es, a :: as, h => by
    unfold mEs at h
    rw [Bool.and_eq_true] at h
    intro x hx
    rcases List.mem_cons.mp hx with rfl | hx
    · exact mE_plain h.1
    · exact mEs_plain h.2 x hx
theorem star_any {env : Env} {pos : Pos} : ∀ {as : List Expr}, (∀ a ∈ as, plainE a = true) → (backTo pos (starEach as env)).any (·.1) = false
  | [], _ => rfl
  | a :: as, h => by
    rw [star_cons (h a List.mem_cons_self)]
    show (false || (backTo pos (starEach as env)).any (·.1)) = false
    rw [star_any fun x hx => h x (List.mem_cons_of_mem _ hx)]
    rfl
theorem star_all {env : Env} {pos : Pos} : ∀ {as : List Expr}, (∀ a ∈ as, plainE a = true) → (backTo pos (starEach as env)).all (fun x => !x.1) = true
  | [], _ => rfl
  | a :: as, h => by
    rw [star_cons (h a List.mem_cons_self)]
    show (true && (backTo pos (starEach as env)).all (fun x => !x.1)) = true
    rw [star_all fun x hx => h x (List.mem_cons_of_mem _ hx)]
    rfl
theorem attr_base {a : Expr} {env : Env} {n : Str} (h : plainE a = true) : attributeBase a n env (eval a env) = eval a env := by
  cases a with
  | Call f args kw pos =>
    cases f with
    | Name x p =>
      cases args with
      | nil =>
        cases kw with
        | nil => simp [plainE] at h
        | cons _ _ => rfl
      | cons _ _ => rfl
    | _ => rfl
  | _ => rfl
theorem plain_ix {a : Expr} (h : plainE a = true) : PlainIx a := by
  cases a <;> first | (intro _ _; rfl) | cases h
theorem no_behind {a : Expr} {o : CmpOp} (h : plainE a = true) : behindInMarks o a = false := by
  cases a <;> first | rfl | cases h
theorem no_fold {a : Expr} {env : Env} (h : plainE a = true) : ∀ x, foldedSetIterable a env x = pure x := by
  cases a <;> first | (intro _; rfl) | cases h
end TI
set_option Elab.async false
set_option linter.all false
set_option maxRecDepth 100000
set_option maxHeartbeats 4000000
/-! what terms are worth is what the model gives -/
namespace TI
open PySem PySem.Spec PyProof.Rows L2

/-- what a state's meaning hangs on -/
structure Cc where
  K : PySem.W.Frag
  n : Nat
  mg : Str → Option Value
abbrev cc (X : Cx) : Cc := ⟨X.K, X.N.length, X.mg⟩
/-- an exception: its class, its dict, its fields -/
def ErrAt (X : Cc) (Z : Spc) (B : Addr → Prop) (e : Er) (cls : Value) (dd : Option Addr) (H : Hp) : Prop :=
  ∃ (C dx : Addr) (fs : List (Str × V)), cls = .ref C ∧ X.mg (S e.cls) = some (.ref C) ∧ dd = some dx ∧ H dx = some (.xd fs) ∧ fs.map (·.1) = e.nms.map S ∧ DenL X.K Z.r H B (fs.map (·.2)) e.args

/-- an end wished for behind m, from the heap H on -/
def Wr {α : Type} (Z : Spc) (H : Hp) (ok : α → G → Hp → Prop) (er : Er → G → Hp → Prop) : Res α → Prop
  | .ok a g => ∀ H', Fr Z.F H H' → Z.At g H' → ok a g H'
  | .err e g => ∀ H', Fr Z.F H H' → Z.At g H' → er e g H'
  | .stuck => False
section
variable {α β : Type} {Z : Spc} {H H1 : Hp} {ok ok' : α → G → Hp → Prop} {er : Er → G → Hp → Prop}
theorem Wr.from {r : Res α} (h : Wr Z H ok er r) (f : Fr Z.F H H1) : Wr Z H1 ok er r := by
  cases r with
  | ok a g => exact fun H' f' a' => h H' (f.trans f') a'
  | err e g => exact fun H' f' a' => h H' (f.trans f') a'
  | stuck => exact h
theorem Wr.mono {r : Res α} (h : Wr Z H ok er r) (k : ∀ a g H', Fr Z.F H H' → Z.At g H' → ok a g H' → ok' a g H') : Wr Z H ok' er r := by
  cases r with
  | ok a g => exact fun H' f' a' => k a g H' f' a' (h H' f' a')
  | err e g => exact h
  | stuck => exact h
theorem Wr.bind {m : M β} {f : β → M α} {g : G} (h : Wr Z H ok er ((m >>= f) g)) : Wr Z H (fun b g1 H1 => Wr Z H1 ok er (f b g1)) er (m g) := by
  have h : Wr Z H ok er (M.bnd m f g) := h
  unfold M.bnd at h
  cases e : m g with
  | ok b g1 => rw [e] at h; exact fun H1 f1 _ => h.from f1
  | err x g1 => rw [e] at h; exact h
  | stuck => rw [e] at h; exact h
theorem Wr.bindB {m : M β} {f : β → M α} {g : G} (h : Wr Z H ok er ((m >>= f) g)) : Wr Z H (fun b g1 _ => Wr Z H ok er (f b g1)) er (m g) := by
  have h : Wr Z H ok er (M.bnd m f g) := h
  unfold M.bnd at h
  cases e : m g with
  | ok b g1 => rw [e] at h; exact fun _ _ _ => h
  | err x g1 => rw [e] at h; exact h
  | stuck => rw [e] at h; exact h
theorem Wr.nox {m : M α} {g : G} (h : Wr Z H ok er (TI.nox m g)) : Wr Z H ok (fun _ _ _ => False) (m g) := by
  unfold TI.nox at h
  cases e : m g with
  | ok b g1 => rw [e] at h; exact h
  | err x g1 => rw [e] at h; exact h.elim
  | stuck => rw [e] at h; exact h
theorem Wr.monoE {er' : Er → G → Hp → Prop} {r : Res α} (h : Wr Z H ok er r) (k : ∀ e g H', er e g H' → er' e g H') : Wr Z H ok er' r := by
  cases r with
  | ok a g => exact h
  | err e g => exact fun H' f a' => k e g H' (h H' f a')
  | stuck => exact h
theorem Wr.pure {a : α} {g : G} (h : Wr Z H ok er ((Pure.pure a : M α) g)) (at' : Z.At g H) : ok a g H := h H .refl at'
theorem Wr.ofPr {m : M α} {g : G} (p : Pr m) (h : Wr Z H ok er (m g)) (at' : Z.At g H) : ∃ a, m g = .ok a g ∧ ∀ H', Fr Z.F H H' → Z.At g H' → ok a g H' := by
  rcases p g with ⟨a, e⟩ | e
  · rw [e] at h; exact ⟨a, e, h⟩
  · rw [e] at h; exact h.elim
theorem Wr.grd {c : Bool} {m : M α} {g : G} (h : Wr Z H ok er (grd c m g)) : c = true ∧ Wr Z H ok er (m g) := by
  unfold TI.grd at h
  split at h
  · exact ⟨by assumption, h⟩
  · exact h.elim
theorem Wr.stk {g : G} (h : Wr Z H ok er ((M.stk : M α) g)) : False := h
theorem Wr.opt {o : Option α} {g : G} (h : Wr Z H ok er (opt o g)) (at' : Z.At g H) : ∃ a, o = some a ∧ ok a g H := by
  cases o with
  | none => exact h.elim
  | some a => exact ⟨a, rfl, Wr.pure h at'⟩
end

/-- what is known at a state -/
structure Pre (X : Cc) (Z : Spc) (B : Addr → Prop) (ρ : List Sl) (g : G) (σ : L2.St) (H : Hp) (vs : List Nat) : Prop where
  sub : ∀ a, Z.F a → B a
  bok : BOk B H
  at' : Z.At g H
  len : σ.length = X.n
  sl : ∀ i ∈ vs, ∀ d, vget ρ i = some d → ∃ v, σ[i]? = some (some v) ∧ Den X.K Z.r H B v d
section
variable {X : Cc} {Z : Spc} {B : Addr → Prop} {ρ : List Sl} {g g1 : G} {σ : L2.St} {H H1 : Hp} {vs ws : List Nat}
theorem bok_step (sub : ∀ a, Z.F a → B a) (b : BOk B H) (f : Fr Z.F H H1) (a : Z.At g1 H1) : BOk B H1 := fun x hx => by
  by_cases h : Z.F x
  · exact Z.mu a x h
  · obtain ⟨o, e, m⟩ := b x hx
    exact ⟨o, f x o e h, m⟩
theorem Pre.step (p : Pre X Z B ρ g σ H vs) (f : Fr Z.F H H1) (a : Z.At g1 H1) : Pre X Z B ρ g1 σ H1 vs :=
  ⟨p.sub, bok_step p.sub p.bok f a, a, p.len, fun i hi d e => by
    obtain ⟨v, h1, h2⟩ := p.sl i hi d e
    exact ⟨v, h1, Den.fr (f.mono p.sub) p.bok d v h2⟩⟩
theorem Pre.less (p : Pre X Z B ρ g σ H vs) (h : ∀ i ∈ ws, i ∈ vs) : Pre X Z B ρ g σ H ws := ⟨p.sub, p.bok, p.at', p.len, fun i hi => p.sl i (h i hi)⟩
theorem Pre.l (p : Pre X Z B ρ g σ H (vs ++ ws)) : Pre X Z B ρ g σ H vs := p.less fun _ h => List.mem_append_left _ h
theorem Pre.r (p : Pre X Z B ρ g σ H (vs ++ ws)) : Pre X Z B ρ g σ H ws := p.less fun _ h => List.mem_append_right _ h
theorem Pre.den (p : Pre X Z B ρ g σ H vs) (f : Fr Z.F H H1) {d : D} {v : V} (h : Den X.K Z.r H B v d) : Den X.K Z.r H1 B v d := Den.fr (f.mono p.sub) p.bok d v h
theorem Pre.denL (p : Pre X Z B ρ g σ H vs) (f : Fr Z.F H H1) {d : List D} {v : List V} (h : DenL X.K Z.r H B v d) : DenL X.K Z.r H1 B v d := DenL.fr (f.mono p.sub) p.bok d v h
theorem new_back {p : Addr} (f : Fr Z.F H H1) (a : Z.At g1 H1) (n : H1 p = none) : H p = none := by
  cases e : H p with
  | none => rfl
  | some o =>
    by_cases h : Z.F p
    · obtain ⟨o', e', _⟩ := Z.mu a p h
      rw [n] at e'; cases e'
    · have := f p o e h
      rw [n] at this; cases this
theorem at_same (Z : Spc) {g : G} {H H' : Hp} (a : Z.At g H) (s : Same H H') : Z.At g H' := Z.loc a fun x o _ e => s x o e
end

/-- what of a value is new since H -/
structure Fsh (n : Nat) (H H' : Hp) (v : V) (d : D) : Prop where
  a : 1 ≤ n → isCont d = true → ∃ p, v = .ref p ∧ H p = none
  b : 2 ≤ n → d.kids.all isCont = true → ∀ p, v = .ref p → ∃ qs : List Addr, H' p = some (.lst (qs.map .ref)) ∧ qs.Nodup ∧ ∀ q ∈ qs, H q = none ∧ q ≠ p
theorem fsh0 {H H' : Hp} {v : V} {d : D} : Fsh 0 H H' v d := ⟨fun z => absurd z (by decide), fun z => absurd z (by decide)⟩
theorem fshN {n : Nat} {H H' : Hp} {v : V} {d : D} (n1 : n ≤ 1) (h : isCont d = false) : Fsh n H H' v d := ⟨fun _ z => (by rw [h] at z; cases z), fun z => (by omega)⟩
theorem fsh1 {H H' : Hp} {p : Addr} {d : D} (h : H p = none) : Fsh 1 H H' (.ref p) d := ⟨fun _ _ => ⟨p, rfl, h⟩, fun z => absurd z (by decide)⟩
def okD (X : Cc) (Z : Spc) (B : Addr → Prop) (H : Hp) (fr : Nat) (Q : VK) : D → G → Hp → Prop := fun d _ H' => ∀ v, Den X.K Z.r H' B v d → Fsh fr H H' v d → Q v H'
def okB (Q : Bool → Hp → Prop) : Bool → G → Hp → Prop := fun b _ H' => Q b H'
def okL (X : Cc) (Z : Spc) (B : Addr → Prop) (Q : List V → Hp → Prop) : List D → G → Hp → Prop := fun ds _ H' => ∀ vs, DenL X.K Z.r H' B vs ds → Q vs H'
def okO (Q : Option Int → Hp → Prop) : Option Int → G → Hp → Prop := fun o _ H' => Q o H'
def erW (X : Cc) (Z : Spc) (B : Addr → Prop) (W : WX) (σ : L2.St) : Er → G → Hp → Prop := fun e _ H' => ∀ cls dd, ErrAt X Z B e cls dd H' → W cls dd σ H'
def tM (X : Cc) (Z : Spc) (W : WX) (vs : List Nat) (fr : Nat) (m : List Sl → M D) : TE := fun σ H Q => ∃ B ρ g, Pre X Z B ρ g σ H vs ∧ Wr Z H (okD X Z B H fr Q) (erW X Z B W σ) (m ρ g)
def tMB (X : Cc) (Z : Spc) (W : WX) (vs : List Nat) (m : List Sl → M Bool) : TT := fun σ H Q => ∃ B ρ g, Pre X Z B ρ g σ H vs ∧ Wr Z H (okB Q) (erW X Z B W σ) (m ρ g)
def tML (X : Cc) (Z : Spc) (W : WX) (vs : List Nat) (m : List Sl → M (List D)) : TA := fun σ H Q => ∃ B ρ g, Pre X Z B ρ g σ H vs ∧ Wr Z H (okL X Z B Q) (erW X Z B W σ) (m ρ g)
def tMO (X : Cc) (Z : Spc) (W : WX) (vs : List Nat) (m : List Sl → M (Option Int)) : TO := fun σ H Q => ∃ B ρ g, Pre X Z B ρ g σ H vs ∧ Wr Z H (okO Q) (erW X Z B W σ) (m ρ g)

/-! ### the context -/
def bnames : List Str := ["len", "sum", "max", "min", "abs", "int", "tuple", "list", "any", "all", "ord", "sorted", "bool", "str", "isinstance", "range", "enumerate", "zip", "reversed"]
structure XOk (X : Cx) (Z : Spc) (W : WX) (k : Nat) (sc : Scope) : Prop where
  sc : X.env.scope = sc
  nd : X.N.Nodup
  calm : X.calm = true
  room : Room k X.A
  tk : Takes X W
  bn : ∀ x ∈ bnames, X.mg x = none
theorem XOk.u {X : Cx} {Z : Spc} {W : WX} {k : Nat} {sc : Scope} (O : XOk X Z W k sc) : X.A.units + 200 < cLine := by
  have := O.room.un
  omega
/-- a def's promise by its tree function -/
def spD (K : PySem.W.Frag) (mg : Str → Option Value) (Z : Spc) (n : Nat) (f : Sem) : Sp := fun vs H Q E => vs.length = n ∧ ∃ B ds g, (∀ a, Z.F a → B a) ∧ BOk B H ∧ Z.At g H ∧ DenL K Z.r H B vs ds ∧
  Wr Z H (fun d _ H' => ∀ v, Den K Z.r H' B v d → Q v H')
    (fun e _ H' => ∀ cls dd, (∃ (C dx : Addr) (fs : List (Str × V)), cls = .ref C ∧ mg (S e.cls) = some (.ref C) ∧ dd = some dx ∧ H' dx = some (.xd fs) ∧ fs.map (·.1) = e.nms.map S ∧ DenL K Z.r H' B (fs.map (·.2)) e.args) → E cls dd H') (f ds g)
structure GFn (P : Program) (w : World) (K : PySem.W.Frag) (mg : Str → Option Value) (base : Heap) (Z : Spc) (k : Nat) (x : Str) (f : Sem) : Prop where
  ex : ∃ (a : Addr) (fd : FuncData) (ps : List Str), mg x = some (.ref a) ∧ PySem.W.keepIn K (.ref a) = true ∧ Binds K fd ps [] ∧ FnOk P w K mg base (CX P w) k a fd ps (spD K mg Z ps.length f) ∧ ∀ ds g, ds.length ≠ ps.length → f ds g = .stuck
abbrev GFX (X : Cx) (Z : Spc) (k : Nat) (p : Str × Sem) : Prop := GFn X.prog X.w X.K X.mg X.base Z k p.1 p.2
def GGX (X : Cx) (Z : Spc) (p : Str × D) : Prop := ∃ u v, X.mg p.1 = some u ∧ RelV v u ∧ ∀ H B, Den X.K Z.r H B v p.2

section
variable {X : Cx} {Z : Spc} {W : WX} {k : Nat} {sc : Scope}
theorem name_vis {N : List Str} {i : Nat} {x : Str} (h : mName N sc i x = true) : N[i]? = some x ∧ Vis sc x ∧ (x == ("__debug__" : Str)) = false ∧ (x == ("__classdict__" : Str)) = false := by
  unfold mName at h
  simp only [Bool.and_eq_true, decide_eq_true_eq, Bool.not_eq_true'] at h
  refine ⟨h.1, ?_, h.2.2.1, h.2.2.2⟩
  have q := h.2.1
  unfold isLocK at q
  unfold Vis
  split at q
  · rename_i e; exact .inl e
  · rename_i e; exact .inr (.inl e)
  · rename_i e; exact .inr (.inr e)
  · cases q
theorem glo_gl (O : XOk X Z W k sc) {x : Str} (h : mGlo sc x = true) : Gl X x ∧ (x == ("__debug__" : Str)) = false ∧ x ≠ ("__name__" : Str) := by
  unfold mGlo at h
  simp only [Bool.and_eq_true, decide_eq_true_eq, Bool.not_eq_true'] at h
  refine ⟨?_, h.2.1, h.2.2⟩
  show X.env.scope.names.lookup x = _
  rw [O.sc]; exact h.1
theorem pe_mono {e : Expr} {t u : TE} (h : PE X e t) (k : ∀ σ H Q, u σ H Q → t σ H Q) : PE X e u := ⟨fun pins s σ H Q I q => h.run pins s σ H Q I (k σ H Q q)⟩
theorem pt_mono {e : Expr} {t u : TT} (h : PT X e t) (k : ∀ σ H Q, u σ H Q → t σ H Q) : PT X e u := ⟨fun pins s σ H Q I q => h.run pins s σ H Q I (k σ H Q q)⟩
theorem pa_mono {e : List Expr} {t u : TA} (h : PA X e t) (k : ∀ σ H Q, u σ H Q → t σ H Q) : PA X e u := ⟨fun pos pins s σ H Q I q => h.run pos pins s σ H Q I (k σ H Q q)⟩
theorem po_mono {e : Option Expr} {t u : TO} (h : PO X e t) (k : ∀ σ H Q, u σ H Q → t σ H Q) : PO X e u := ⟨fun pins s σ H Q I q => h.run pins s σ H Q I (k σ H Q q)⟩
end
end TI
set_option Elab.async false
set_option linter.all false
set_option maxRecDepth 100000
set_option maxHeartbeats 4000000
/-! enumerate of a tuple, of a text -/
namespace PySem
open Sem (wp)
open AutoSeq1 (wpAny_loadPart')
theorem ti_meets_enum {v : Value} {o : Obj} {H : Heap → Prop} (B : Begins v o H) :
    Meets (Builtin.«enumerate.__new__» ⟨[.type "enumerate", v], []⟩) (fun _ R s => H s.heap ∧
      R (.ok (.ret (.ref (s.heap.push o).objs.size)))
        { s with heap := (s.heap.push o).push { cls := .type "enumerate", data := .fields #[.none, .bool false, .ref s.heap.objs.size, rawInt 0, .none, .none] } }) :=
  .of_wp fun prog w A R s h => by
    obtain ⟨hp, g, d, tk, os⟩ := s; obtain ⟨h1, h⟩ := h
    have hsub := sub_enumerate
    have q1 : ∀ {A' : Around} {E : Value → Shared → Prop} {Q : Value → Shared → Prop}, Q (.ref hp.objs.size) ⟨(hp.push o), g, d, tk, os⟩ → wpAny (model prog w) A' (pyIter v) Q E ⟨hp, g, d, tk, os⟩ :=
      fun q => B.iter prog w _ _ ⟨hp, g, d, tk, os⟩ _ h1 q
    wp_walk
    refine wpAny_stack_any fun st => wpAny_pure ?_
    split
    · rename_i c _ _ _ _ _
      cases (c == Value.type "enumerate")
      · wp_walk using q1
        exact ⟨_, rfl, h⟩
      · wp_walk using q1
        exact ⟨_, rfl, h⟩
    · wp_walk using q1
      exact ⟨_, rfl, h⟩
theorem ti_enum_begins {prog : Program} {w : World} {A : Around} {E : Value → Shared → Prop} {s : Shared} {v : Value} {o : Obj} {H : Heap → Prop} {Q : Value → Shared → Prop} (B : Begins v o H) (h1 : H s.heap)
    (h : ∀ h', IsEnum h' (s.heap.objs.size + 1) s.heap.objs.size 0 .none → h'.get? s.heap.objs.size = some o → h'.objs.size = s.heap.objs.size + 2 →
      (∀ b o, s.heap.get? b = some o → h'.get? b = some o) → Q (.ref (s.heap.objs.size + 1)) { s with heap := h' }) :
    wpAny (model prog w) A (call (.type "enumerate") [v]) Q E s := by
  refine callType_new F.called_enumerate (by decide) (F.typeCall_enumerate_1 _) (F.newCall_enumerate_1 _) (fun obj => F.args_object_init_2 obj _) F.entry_enumerate_new
    (ti_meets_enum B) ⟨h1, ?_⟩
  have hz : (s.heap.push o).objs.size = s.heap.objs.size + 1 := Heap.size_push ..
  show _ ∧ _
  rw [hz]
  have he : IsEnum ((s.heap.push o).push { cls := .type "enumerate", data := .fields #[.none, .bool false, .ref s.heap.objs.size, rawInt 0, .none, .none] }) (s.heap.objs.size + 1) s.heap.objs.size 0 .none := by
    have := Heap.get?_push_size (s.heap.push o) (o := { cls := .type "enumerate", data := .fields #[.none, .bool false, .ref s.heap.objs.size, rawInt 0, .none, .none] }) rfl
    rw [hz] at this; exact this
  refine ⟨⟨_, he, rfl⟩, h _ he (Heap.get?_push_of_some _ (Heap.get?_push_size _ B.free)) (by rw [Heap.size_push, hz]) fun b o x => Heap.get?_push_of_some _ (Heap.get?_push_of_some _ x)⟩
end PySem
namespace TI
open PySem PySem.Spec PyProof.Rows L2

def IteT (K : PySem.W.Frag) (a : Addr) : L2.It :=
  ⟨fun i H => ∃ (xs : List V) (x : V), SqT K H a xs ∧ xs[i]? = some x, fun i H v H' => ∃ T x, v = .ref T ∧ H T = none ∧ H' = upd H T (.tup [.int (i : Nat), x]) ∧ ∀ xs, SqT K H a xs → xs[i]? = some x, fun i H => ∃ xs : List V, SqT K H a xs ∧ xs.length ≤ i⟩
theorem turn_enumT {P : Program} {w : World} {K : PySem.W.Frag} {elts : List Expr} {kk : Nat} {tpos : Pos} (a e it : Addr) :
    Turn P w K (.Tuple elts kk tpos) (IteT K a) [e, it] e (fun i h => (∃ old, IsEnum h e it ((i : Nat) : Int) old) ∧ h.IsTupleIter it a i ∧ e ≠ it) where
  mem := by simp
  obj := fun i h st b hb => by
    obtain ⟨⟨old, he⟩, ⟨o, ho, hc, hd⟩, _⟩ := st
    have e' : b = e ∨ b = it := by simpa using hb
    rcases e' with z | z
    · rw [z]; exact ⟨_, he, fun v q => nomatch q⟩
    · rw [z]; exact ⟨o, ho, fun v q => by rw [hd] at q; cases q⟩
  keep := fun i h h' st k => let ⟨⟨old, he⟩, hi, hne⟩ := st; ⟨⟨old, k e (by simp) _ he⟩, hi.at fun o q => k it (by simp) o q, hne⟩
  item := by
    intro X hP hw hK hc i pins s σ H E I hf st hg
    subst hP hw hK
    obtain ⟨⟨old, he⟩, hit, hne⟩ := st
    obtain ⟨xs, x, hq, hx⟩ := hg
    obtain ⟨its, rv, p, hz⟩ := I.tuple hq
    obtain ⟨u, hu, ru⟩ := rv.get hx
    have hel : e < s.heap.objs.size := Heap.lt_size he
    have hil : it < s.heap.objs.size := by obtain ⟨_, q, _⟩ := hit; exact Heap.lt_size q
    have hlen : i < its.toArray.size := by
      have := (List.getElem?_eq_some_iff.mp hu).1
      simpa using this
    have nae : a ≠ e := fun z => by
      obtain ⟨o, ho, hc', _⟩ := p
      rw [z, he] at ho; cases ho
      have q : (Value.type "enumerate") = Value.type "tuple" := hc'
      exact absurd q (by decide)
    have nai : a ≠ it := fun z => by
      obtain ⟨o, ho, hc', _⟩ := p
      obtain ⟨o2, ho2, hc2, _⟩ := hit
      rw [z, ho2] at ho; cases ho; rw [hc2] at hc'; exact absurd hc' (by decide)
    refine wpAny_pyNext_enum_itemD (Draws.tuple (A := X.A.in1) (I.ok.hd hc) it a nai its.toArray) he ⟨hit, p⟩ hlen hne (by simp [hne, Ne.symm nae]) fun y h' tk hPy ho hst hT hsz hk => ?_
    obtain ⟨hit', hp'⟩ := hst
    have hyu : y = u := by
      have h1 : its.toArray[i]? = some y := hPy
      rw [show its.toArray[i]? = its[i]? by simp, hu] at h1
      exact (Option.some.inj h1).symm
    subst hyu
    refine ⟨_, rfl, wpAny_letOwnedTupleGo_enum (s := { s with heap := h', toks := tk + 1 }) ho fun h'' he' sb => ?_⟩
    have hT2 : h''.get? s.heap.objs.size = some { cls := .type "tuple", data := .seq #[.int i tk, y] } := (sb.2 _ (Nat.ne_of_gt hel)).trans hT
    have new : ObjOk X.prog X.w (upd H s.heap.objs.size (.tup [.int (i : Nat), x])) h'' s.heap.objs.size (.tup [.int (i : Nat), x]) :=
      ⟨by show 2 ≤ sizeLine; decide, [.int i tk, y], .cons ⟨_, rfl⟩ (.cons ru .nil), ⟨_, hT2, rfl, _, rfl⟩⟩
    have I1 : Inv X pins σ (upd H s.heap.objs.size (.tup [.int (i : Nat), x])) { s with heap := h'', toks := tk + 1 } :=
      I.turnedNew (ch := [e, it]) (fun b ob hb q => (sb.2 b (fun z => hb (by simp [z]))).trans (hk b ob (fun z => hb (by simp [z])) (fun z => hb (by simp [z])) q)) hf (Nat.le_refl _) new
    refine ⟨.ref s.heap.objs.size, _, I1, rfl, ⟨_, x, rfl, I.hok.fresh (Nat.le_refl _), rfl, fun ys hy => by rw [I.tuple_inj hy hq]; exact hx⟩, ⟨⟨y, ?_⟩, hit'.at fun o q => (sb.2 it (Ne.symm hne)).trans q, hne⟩, fun b hb => ?_⟩
    · have e1 : ((i + 1 : Nat) : Int) = (i : Int) + 1 := by omega
      rw [e1]; exact he'
    · have hb' : b < s.heap.objs.size := by
        have e' : b = e ∨ b = it := by simpa using hb
        rcases e' with z | z
        · rw [z]; exact hel
        · rw [z]; exact hil
      rw [upd_ne (Nat.ne_of_lt hb')]
      exact (hf b hb).1
  done := by
    intro X hP hw hK hc i pins s σ H E I hf st hg
    subst hP hw hK
    obtain ⟨⟨old, he⟩, hit, hne⟩ := st
    obtain ⟨xs, hq, hx⟩ := hg
    obtain ⟨its, rv, p, hz⟩ := I.tuple hq
    obtain ⟨f0, f1, f2, f3, f4, f5⟩ := hf it (by simp)
    have hl := rv.length
    have hT : s.TypeIs (.ref e) "enumerate" := ⟨_, he, rfl⟩
    have hend : wpAny (model X.prog X.w) X.A (pyNext (.ref e)) (fun r s1 => r = none ∧ Inv X pins σ H s1) E s := by
      unfold pyNext
      refine wpAny_bind (wpAny_attempt (wpAny_callSpecial?_slot (name := Str.ofString "__next__") hT F.slot_enumerate_next
        (wpAny_call_entry F.slot_enumerate_next hT F.entry_enumerate_next ?_ (F.args_enumerate_next_1 _))))
      show wpAny _ _ (field (.ref e) 2 >>= _) _ _ _
      refine wpAny_bind (wpAny_field he rfl (x := .ref it) rfl ?_)
      refine wpAny_bind (wpAny_nextOf_tuple_end (A := X.A.in1) (I.ok.hd hc) hit p (by simp; omega) fun h' x he' hx' => ?_)
      obtain ⟨o, ho, hc⟩ := hx'
      refine wpAny_bind (wpAny_isInstance (T := "StopIteration") (b := true) ⟨o, ho, hc⟩ isSubtype_stop ?_)
      exact wpAny_pure ⟨rfl, I.turned (t' := s.toks) (fun b o hb q => he' b o hb q) f0 f1 f3 f4 f5⟩
    exact hend
  self := fun A i s Q E st h => let ⟨⟨_, he⟩, _⟩ := st; wpAny_pyIter_enum he h
def IteS (z : Str) : L2.It :=
  ⟨fun i _ => i < z.cps.size, fun i H v H' => ∃ T c, v = .ref T ∧ H T = none ∧ H' = upd H T (.tup [.int (i : Nat), .str ⟨#[c]⟩]) ∧ z.cps[i]? = some c, fun i _ => z.cps.size ≤ i⟩
theorem turn_enumS {P : Program} {w : World} {K : PySem.W.Frag} {elts : List Expr} {kk : Nat} {tpos : Pos} (z : Str) (t : Tok) (e it : Addr) :
    Turn P w K (.Tuple elts kk tpos) (IteS z) [e, it] e (fun i h => (∃ old, IsEnum h e it ((i : Nat) : Int) old) ∧ h.IsStrIter it (strIterType z) z t i ∧ e ≠ it) where
  mem := by simp
  obj := fun i h st b hb => by
    obtain ⟨⟨old, he⟩, ⟨o, ho, hc, hd⟩, _⟩ := st
    have e' : b = e ∨ b = it := by simpa using hb
    rcases e' with z | z
    · rw [z]; exact ⟨_, he, fun v q => nomatch q⟩
    · rw [z]; exact ⟨o, ho, fun v q => by rw [hd] at q; cases q⟩
  keep := fun i h h' st k => let ⟨⟨old, he⟩, hi, hne⟩ := st; ⟨⟨old, k e (by simp) _ he⟩, (let ⟨o, ho, r⟩ := hi; ⟨o, k it (by simp) o ho, r⟩), hne⟩
  item := by
    intro X hP hw hK hc i pins s σ H E I hf st hg
    subst hP hw hK
    obtain ⟨⟨old, he⟩, hit, hne⟩ := st
    have hel : e < s.heap.objs.size := Heap.lt_size he
    have hil : it < s.heap.objs.size := by obtain ⟨_, q, _⟩ := hit; exact Heap.lt_size q
    have hlen : i < z.cps.size := hg
    refine wpAny_pyNext_enum_itemD (Draws.text (A := X.A.in1) (I.ok.hd hc) it z t) he hit hlen hne (by simp [hne]) fun y h' tk hPy ho hit' hT hsz hk => ?_
    obtain ⟨c, u, hcu, rfl⟩ := hPy
    refine ⟨_, rfl, wpAny_letOwnedTupleGo_enum (s := { s with heap := h', toks := tk + 1 }) ho fun h'' he' sb => ?_⟩
    have hT2 : h''.get? s.heap.objs.size = some { cls := .type "tuple", data := .seq #[.int i tk, .str ⟨#[c]⟩ u] } := (sb.2 _ (Nat.ne_of_gt hel)).trans hT
    have new : ObjOk X.prog X.w (upd H s.heap.objs.size (.tup [.int (i : Nat), .str ⟨#[c]⟩])) h'' s.heap.objs.size (.tup [.int (i : Nat), .str ⟨#[c]⟩]) :=
      ⟨by show 2 ≤ sizeLine; decide, [.int i tk, .str ⟨#[c]⟩ u], .cons ⟨_, rfl⟩ (.cons ⟨_, rfl⟩ .nil), ⟨_, hT2, rfl, _, rfl⟩⟩
    have I1 : Inv X pins σ (upd H s.heap.objs.size (.tup [.int (i : Nat), .str ⟨#[c]⟩])) { s with heap := h'', toks := tk + 1 } :=
      I.turnedNew (ch := [e, it]) (fun b ob hb q => (sb.2 b (fun z => hb (by simp [z]))).trans (hk b ob (fun z => hb (by simp [z])) (fun z => hb (by simp [z])) q)) hf (Nat.le_refl _) new
    refine ⟨.ref s.heap.objs.size, _, I1, rfl, ⟨_, c, rfl, I.hok.fresh (Nat.le_refl _), rfl, hcu⟩, ⟨⟨.str ⟨#[c]⟩ u, ?_⟩, (let ⟨o, ho, r⟩ := hit'; ⟨o, (sb.2 it (Ne.symm hne)).trans ho, r⟩), hne⟩, fun b hb => ?_⟩
    · have e1 : ((i + 1 : Nat) : Int) = (i : Int) + 1 := by omega
      rw [e1]; exact he'
    · have hb' : b < s.heap.objs.size := by
        have e' : b = e ∨ b = it := by simpa using hb
        rcases e' with z | z
        · rw [z]; exact hel
        · rw [z]; exact hil
      rw [upd_ne (Nat.ne_of_lt hb')]
      exact (hf b hb).1
  done := by
    intro X hP hw hK hc i pins s σ H E I hf st hg
    subst hP hw hK
    obtain ⟨⟨old, he⟩, hit, hne⟩ := st
    obtain ⟨f0, f1, f2, f3, f4, f5⟩ := hf it (by simp)
    have hT : s.TypeIs (.ref e) "enumerate" := ⟨_, he, rfl⟩
    have hend : wpAny (model X.prog X.w) X.A (pyNext (.ref e)) (fun r s1 => r = none ∧ Inv X pins σ H s1) E s := by
      unfold pyNext
      refine wpAny_bind (wpAny_attempt (wpAny_callSpecial?_slot (name := Str.ofString "__next__") hT F.slot_enumerate_next
        (wpAny_call_entry F.slot_enumerate_next hT F.entry_enumerate_next ?_ (F.args_enumerate_next_1 _))))
      show wpAny _ _ (field (.ref e) 2 >>= _) _ _ _
      refine wpAny_bind (wpAny_field he rfl (x := .ref it) rfl ?_)
      have hst : s.heap.IsStrIter it (strIterType z) z t i := hit
      have hend2 : ∀ {Q : Value → Shared → Prop} {E' : Value → Shared → Prop}, (∀ h' e, Heap.ExtBut it s.heap h' → (∃ o, h'.get? e = some o ∧ o.cls = .type "StopIteration") → E' (.ref e) { s with heap := h' }) → wpAny (model X.prog X.w) X.A.in1 (Builtin.SmallTypes.nextOf (.ref it)) Q E' s := by
        intro Q E' hE
        cases ha : z.cps.all (· < 128)
        · have h2 : strIterType z = "str_iterator" := by simp [strIterType, ha]
          rw [h2] at hst
          exact wpAny_nextOf_wide_end (A := X.A.in1) (I.ok.hd hc) hst (by simp; exact hg) hE
        · have h2 : strIterType z = "str_ascii_iterator" := by simp [strIterType, ha]
          rw [h2] at hst
          exact wpAny_nextOf_ascii_end (A := X.A.in1) (I.ok.hd hc) hst (by simp; exact hg) hE
      refine wpAny_bind (hend2 fun h' x he' hx' => ?_)
      obtain ⟨o, ho, hc⟩ := hx'
      refine wpAny_bind (wpAny_isInstance (T := "StopIteration") (b := true) ⟨o, ho, hc⟩ isSubtype_stop ?_)
      exact wpAny_pure ⟨rfl, I.turned (t' := s.toks) (fun b o hb q => he' b o hb q) f0 f1 f3 f4 f5⟩
    exact hend
  self := fun A i s Q E st h => let ⟨⟨_, he⟩, _⟩ := st; wpAny_pyIter_enum he h

/-! ### the walks over trees -/
/-- from H0 on the walk J gives the trees ds -/
structure WalkC (X : Cc) (Z : Spc) (B : Addr → Prop) (H0 : Hp) (J : L2.It) (ds : List D) : Prop where
  goes : ∀ i H, i < ds.length → Fr B H0 H → J.go i H
  stops : ∀ H, Fr B H0 H → J.stop ds.length H
  yields : ∀ i H x H', i < ds.length → Fr B H0 H → BOk B H → J.yld i H x H' → Same H H' ∧ ∃ d, ds[i]? = some d ∧ Den X.K Z.r H' B x d
section
variable {X : Cc} {Z : Spc} {B : Addr → Prop} {H0 : Hp} {a : Addr} {vs : List V} {ds : List D}
theorem wd_list (bk : BM B H0) (e : H0 a = some (.lst vs)) (n : ¬ B a) (l : DenL X.K Z.r H0 B vs ds) : WalkC X Z B H0 (Itl X.K a) ds where
  goes := fun i H hi f => ⟨vs, vs[i]'(by rw [l.length]; exact hi), SqL.of (f _ _ e n), by simp [l.length, hi]⟩
  stops := fun H f => ⟨vs, SqL.of (f _ _ e n), by rw [l.length]; exact Nat.le_refl _⟩
  yields := fun i H x H' hi f b y => by
    obtain ⟨rfl, y⟩ := y
    refine ⟨Same.refl _, ?_⟩
    obtain ⟨d, h1, h2⟩ := l.getV (y _ (SqL.of (f _ _ e n)))
    exact ⟨d, h1, Den.frM f bk d x h2⟩
theorem wd_tup (bk : BM B H0) (e : H0 a = some (.tup vs)) (l : DenL X.K Z.r H0 B vs ds) : WalkC X Z B H0 (Itt X.K a) ds where
  goes := fun i H hi f => ⟨vs, vs[i]'(by rw [l.length]; exact hi), SqT.of (tup_frM f bk e), by simp [l.length, hi]⟩
  stops := fun H f => ⟨vs, SqT.of (tup_frM f bk e), by rw [l.length]; exact Nat.le_refl _⟩
  yields := fun i H x H' hi f b y => by
    obtain ⟨rfl, y⟩ := y
    refine ⟨Same.refl _, ?_⟩
    obtain ⟨d, h1, h2⟩ := l.getV (y _ (SqT.of (tup_frM f bk e)))
    exact ⟨d, h1, Den.frM f bk d x h2⟩
theorem wd_str (s : List Nat) : WalkC X Z B H0 (Its (S s)) (s.map fun c => .str [c]) where
  goes := fun i H hi f => by
    show i < (S s).cps.size
    simpa [S] using hi
  stops := fun H f => by
    show (S s).cps.size ≤ _
    simp [S]
  yields := fun i H x H' hi f b y => by
    obtain ⟨rfl, c, hc, rfl⟩ := y
    have hc : s[i]? = some c := by simpa [S] using hc
    exact ⟨Same.refl _, .str [c], by simp [hc], .str [c]⟩
theorem rngD_get : ∀ (n : Nat) (lo c : Int) (i : Nat), i < n → (rngD lo c n)[i]? = some (.int (lo + (i : Nat) * c))
  | 0, _, _, _, h => absurd h (Nat.not_lt_zero _)
  | n + 1, lo, c, 0, _ => by simp [rngD]
  | n + 1, lo, c, i + 1, h => by
    simp only [rngD, List.getElem?_cons_succ]
    rw [rngD_get n (lo + c) c i (by omega)]
    congr 2
    rw [Int.natCast_add, Int.add_mul]
    omega
theorem rngD_len : ∀ (n : Nat) (lo c : Int), (rngD lo c n).length = n
  | 0, _, _ => rfl
  | n + 1, lo, c => by simp [rngD, rngD_len n]
theorem wd_rng (lo : Int) (n : Nat) : WalkC X Z B H0 (Itr lo n) (rngD lo 1 n) where
  goes := fun i H hi f => by rw [rngD_len] at hi; exact hi
  stops := fun H f => by rw [rngD_len]; exact Nat.le_refl _
  yields := fun i H x H' hi f b y => by
    obtain ⟨rfl, rfl⟩ := y
    rw [rngD_len] at hi
    exact ⟨Same.refl _, _, rngD_get n lo 1 i hi, by rw [Int.mul_one]; exact .int _⟩
theorem wd_rngC (lo c : Int) (n : Nat) : WalkC X Z B H0 (Itc lo c n) (rngD lo c n) where
  goes := fun i H hi f => by rw [rngD_len] at hi; exact hi
  stops := fun H f => by rw [rngD_len]; exact Nat.le_refl _
  yields := fun i H x H' hi f b y => by
    obtain ⟨rfl, rfl⟩ := y
    rw [rngD_len] at hi
    exact ⟨Same.refl _, _, rngD_get n lo c i hi, .int _⟩
theorem enum_get : ∀ (ds : List D) (n i : Nat) (d : D), ds[i]? = some d → (enumFrom' n ds)[i]? = some (.tup [.int ((n + i : Nat) : Int), d])
  | [], _, _, _, h => by simp at h
  | x :: ds, n, 0, d, h => by simp at h; subst h; simp [enumFrom']
  | x :: ds, n, i + 1, d, h => by
    simp only [enumFrom', List.getElem?_cons_succ]
    rw [enum_get ds (n + 1) i d (by simpa using h)]
    congr 5
    omega
theorem enum_len : ∀ (ds : List D) (n : Nat), (enumFrom' n ds).length = ds.length
  | [], _ => rfl
  | x :: ds, n => by simp [enumFrom', enum_len ds]
theorem den_pair {H : Hp} {T : Addr} {x y : V} {d e : D} (bk : BOk B H) (nT : H T = none) (h1 : Den X.K Z.r H B x d) (h2 : Den X.K Z.r H B y e) : Den X.K Z.r (upd H T (.tup [x, y])) B (.ref T) (.tup [d, e]) :=
  den_newT bk nT (.cons h1 (.cons h2 .nil))
theorem wd_enumL (bk : BM B H0) (e : H0 a = some (.lst vs)) (n : ¬ B a) (l : DenL X.K Z.r H0 B vs ds) : WalkC X Z B H0 (Ite X.K a) (enumFrom' 0 ds) where
  goes := fun i H hi f => by
    rw [enum_len] at hi
    exact ⟨vs, vs[i]'(by rw [l.length]; exact hi), SqL.of (f _ _ e n), by simp [l.length, hi]⟩
  stops := fun H f => by
    rw [enum_len]
    exact ⟨vs, SqL.of (f _ _ e n), by rw [l.length]; exact Nat.le_refl _⟩
  yields := fun i H x H' hi f b y => by
    obtain ⟨T, z, rfl, nT, rfl, y⟩ := y
    obtain ⟨d, h1, h2⟩ := l.getV (y _ (SqL.of (f _ _ e n)))
    refine ⟨same_upd nT, _, enum_get ds 0 i d h1, den_pair b nT ?_ (Den.frM f bk d z h2)⟩
    rw [Nat.zero_add]; exact .int _
theorem wd_enumT (bk : BM B H0) (e : H0 a = some (.tup vs)) (l : DenL X.K Z.r H0 B vs ds) : WalkC X Z B H0 (IteT X.K a) (enumFrom' 0 ds) where
  goes := fun i H hi f => by
    rw [enum_len] at hi
    exact ⟨vs, vs[i]'(by rw [l.length]; exact hi), SqT.of (tup_frM f bk e), by simp [l.length, hi]⟩
  stops := fun H f => by
    rw [enum_len]
    exact ⟨vs, SqT.of (tup_frM f bk e), by rw [l.length]; exact Nat.le_refl _⟩
  yields := fun i H x H' hi f b y => by
    obtain ⟨T, z, rfl, nT, rfl, y⟩ := y
    obtain ⟨d, h1, h2⟩ := l.getV (y _ (SqT.of (tup_frM f bk e)))
    refine ⟨same_upd nT, _, enum_get ds 0 i d h1, den_pair b nT ?_ (Den.frM f bk d z h2)⟩
    rw [Nat.zero_add]; exact .int _
theorem wd_enumS (s : List Nat) : WalkC X Z B H0 (IteS (S s)) (enumFrom' 0 (s.map fun c => .str [c])) where
  goes := fun i H hi f => by
    rw [enum_len] at hi
    show i < (S s).cps.size
    simpa [S] using hi
  stops := fun H f => by
    rw [enum_len]
    show (S s).cps.size ≤ _
    simp [S]
  yields := fun i H x H' hi f b y => by
    obtain ⟨T, c, rfl, nT, rfl, hc⟩ := y
    have hc : s[i]? = some c := by simpa [S] using hc
    refine ⟨same_upd nT, _, enum_get _ 0 i (.str [c]) (by simp [hc]), den_pair b nT ?_ (.str [c])⟩
    rw [Nat.zero_add]; exact .int _
theorem zip_get : ∀ (as bs : List D) (i : Nat) (a b : D), as[i]? = some a → bs[i]? = some b → (zipD as bs)[i]? = some (.tup [a, b])
  | [], _, _, _, _, h, _ => by simp at h
  | _ :: _, [], _, _, _, _, h => by simp at h
  | x :: as, y :: bs, 0, a, b, h, h2 => by simp at h h2; subst h; subst h2; simp [zipD]
  | x :: as, y :: bs, i + 1, a, b, h, h2 => by
    simp only [zipD, List.getElem?_cons_succ]
    exact zip_get as bs i a b (by simpa using h) (by simpa using h2)
theorem zip_len : ∀ (as bs : List D), (zipD as bs).length = min as.length bs.length
  | [], _ => by simp [zipD]
  | _ :: _, [] => by simp [zipD]
  | x :: as, y :: bs => by simp only [zipD, List.length_cons, zip_len as bs]; omega
variable {b : Addr} {ws : List V} {es : List D}
theorem wd_zipL (bk : BM B H0) (e : H0 a = some (.lst vs)) (n : ¬ B a) (l : DenL X.K Z.r H0 B vs ds) (e2 : H0 b = some (.lst ws)) (n2 : ¬ B b) (l2 : DenL X.K Z.r H0 B ws es) : WalkC X Z B H0 (Itz X.K a b) (zipD ds es) where
  goes := fun i H hi f => by
    rw [zip_len] at hi
    have h1 : i < vs.length := by rw [l.length]; omega
    have h2 : i < ws.length := by rw [l2.length]; omega
    exact ⟨vs, ws, vs[i], ws[i], SqL.of (f _ _ e n), SqL.of (f _ _ e2 n2), by simp [h1], by simp [h2]⟩
  stops := fun H f => by
    rw [zip_len]
    exact ⟨vs, ws, SqL.of (f _ _ e n), SqL.of (f _ _ e2 n2), by rw [l.length, l2.length]; omega⟩
  yields := fun i H x H' hi f b y => by
    obtain ⟨T, z, z2, rfl, nT, rfl, y, y2⟩ := y
    obtain ⟨d, h1, h2⟩ := l.getV (y _ (SqL.of (f _ _ e n)))
    obtain ⟨d2, h3, h4⟩ := l2.getV (y2 _ (SqL.of (f _ _ e2 n2)))
    exact ⟨same_upd nT, _, zip_get ds es i d d2 h1 h3, den_pair b nT (Den.frM f bk d z h2) (Den.frM f bk d2 z2 h4)⟩
theorem wd_zipT (bk : BM B H0) (e : H0 a = some (.tup vs)) (l : DenL X.K Z.r H0 B vs ds) (e2 : H0 b = some (.tup ws)) (l2 : DenL X.K Z.r H0 B ws es) : WalkC X Z B H0 (RZ.ItzT X.K a b) (zipD ds es) where
  goes := fun i H hi f => by
    rw [zip_len] at hi
    have h1 : i < vs.length := by rw [l.length]; omega
    have h2 : i < ws.length := by rw [l2.length]; omega
    exact ⟨vs, ws, vs[i], ws[i], SqT.of (tup_frM f bk e), SqT.of (tup_frM f bk e2), by simp [h1], by simp [h2]⟩
  stops := fun H f => by
    rw [zip_len]
    exact ⟨vs, ws, SqT.of (tup_frM f bk e), SqT.of (tup_frM f bk e2), by rw [l.length, l2.length]; omega⟩
  yields := fun i H x H' hi f b y => by
    obtain ⟨T, z, z2, rfl, nT, rfl, y, y2⟩ := y
    obtain ⟨d, h1, h2⟩ := l.getV (y _ (SqT.of (tup_frM f bk e)))
    obtain ⟨d2, h3, h4⟩ := l2.getV (y2 _ (SqT.of (tup_frM f bk e2)))
    exact ⟨same_upd nT, _, zip_get ds es i d d2 h1 h3, den_pair b nT (Den.frM f bk d z h2) (Den.frM f bk d2 z2 h4)⟩
theorem rev_get {vs : List V} {ds : List D} {H : Hp} (l : DenL X.K Z.r H B vs ds) {i : Nat} {x : V} (hi : i < ds.length) (h : vs[vs.length - 1 - i]? = some x) : ∃ d, ds.reverse[i]? = some d ∧ Den X.K Z.r H B x d := by
  obtain ⟨d, h1, h2⟩ := l.getV h
  refine ⟨d, ?_, h2⟩
  rw [List.getElem?_reverse hi, ← l.length]
  exact h1
theorem wd_revL (bk : BM B H0) (e : H0 a = some (.lst vs)) (n : ¬ B a) (l : DenL X.K Z.r H0 B vs ds) : WalkC X Z B H0 (Itv X.K a vs.length) ds.reverse where
  goes := fun i H hi f => by
    rw [List.length_reverse] at hi
    have h1 : i < vs.length := by rw [l.length]; exact hi
    exact ⟨h1, vs, vs[vs.length - 1 - i], SqL.of (f _ _ e n), by simp [show vs.length - 1 - i < vs.length by omega]⟩
  stops := fun H f => by
    rw [List.length_reverse, ← l.length]; exact Nat.le_refl _
  yields := fun i H x H' hi f b y => by
    rw [List.length_reverse] at hi
    obtain ⟨rfl, y⟩ := y
    obtain ⟨d, h1, h2⟩ := rev_get l hi (y _ (SqL.of (f _ _ e n)))
    exact ⟨Same.refl _, d, h1, Den.frM f bk d x h2⟩
theorem wd_revT (bk : BM B H0) (e : H0 a = some (.tup vs)) (l : DenL X.K Z.r H0 B vs ds) : WalkC X Z B H0 (RT.ItvT X.K a vs.length) ds.reverse where
  goes := fun i H hi f => by
    rw [List.length_reverse] at hi
    have h1 : i < vs.length := by rw [l.length]; exact hi
    exact ⟨h1, vs, vs[vs.length - 1 - i], SqT.of (tup_frM f bk e), by simp [show vs.length - 1 - i < vs.length by omega]⟩
  stops := fun H f => by
    rw [List.length_reverse, ← l.length]; exact Nat.le_refl _
  yields := fun i H x H' hi f b y => by
    rw [List.length_reverse] at hi
    obtain ⟨rfl, y⟩ := y
    obtain ⟨d, h1, h2⟩ := rev_get l hi (y _ (SqT.of (tup_frM f bk e)))
    exact ⟨Same.refl _, d, h1, Den.frM f bk d x h2⟩

/-- from H0 on the walk J gives the trees ds, whatever new things are not to be met -/
def WalkD (X : Cc) (Z : Spc) (B : Addr → Prop) (H0 : Hp) (J : L2.It) (ds : List D) : Prop := ∀ C : Addr → Prop, (∀ a, C a → B a ∨ H0 a = none) → WalkC X Z C H0 J ds
theorem bm_new {C : Addr → Prop} (bk : BOk B H0) (hC : ∀ a, C a → B a ∨ H0 a = none) : BM C H0 := fun a o e c => by
  rcases hC a c with h | h
  · exact bk.bm a o e h
  · rw [e] at h; cases h
theorem not_new {C : Addr → Prop} {o : HO} (hC : ∀ a, C a → B a ∨ H0 a = none) (e : H0 a = some o) (n : ¬ B a) : ¬ C a := fun c => by
  rcases hC a c with h | h
  · exact n h
  · rw [e] at h; cases h
theorem den_new {C : Addr → Prop} (hC : ∀ a, C a → B a ∨ H0 a = none) {d : D} {v : V} (h : Den X.K Z.r H0 B v d) : Den X.K Z.r H0 C v d := Den.ban (fun a o e _ n => not_new hC e n) d v h
theorem denL_new {C : Addr → Prop} (hC : ∀ a, C a → B a ∨ H0 a = none) {d : List D} {v : List V} (h : DenL X.K Z.r H0 B v d) : DenL X.K Z.r H0 C v d := DenL.ban (fun a o e _ n => not_new hC e n) d v h
end
/-! ### the rules -/
section
variable {X : Cx} {tg : Expr}
def iAny (K : PySem.W.Frag) (tl : TE) : TI := fun σ H R => tl σ H fun x H1 => (∃ a, x = .ref a ∧ (∃ xs, SqL K H1 a xs) ∧ R (Itl K a) H1) ∨ (∃ a, x = .ref a ∧ (∃ xs, SqT K H1 a xs) ∧ R (Itt K a) H1) ∨ ∃ z, x = .str z ∧ R (Its z) H1
theorem pi_any {l : Expr} {tl : TE} (hl : PE X l tl) : PI X tg l (iAny X.K tl) := by
  refine ⟨fun pins s σ H R I h => ?_⟩
  refine thn (hl.run pins s σ H _ I h) fun v s1 ⟨x, H1, I1, r1, q1⟩ => ?_
  rcases q1 with ⟨a, e, ⟨xs, hq⟩, q⟩ | ⟨a, e, ⟨xs, hq⟩, q⟩ | ⟨z, e, q⟩
  · subst e
    cases r1
    obtain ⟨its, rv, p, hz⟩ := I1.list hq
    refine wpAny_pyIter_list p.isList ?_
    refine ⟨s1.heap.objs.size, [s1.heap.objs.size], _, _, H1, rfl, I1.kept (t' := s1.toks) fun b o e => Heap.get?_push_of_some _ e, turn_list a _, ⟨_, Heap.get?_push_size _ rfl, rfl, rfl⟩, fun b hb => ?_, q⟩
    have e : b = s1.heap.objs.size := by simpa using hb
    subst e
    exact I1.fpOk (Nat.le_refl _) (I1.hok.fresh (Nat.le_refl _))
  · subst e
    cases r1
    obtain ⟨its, rv, p, hz⟩ := I1.tuple hq
    refine wpAny_pyIter_tuple (show s1.heap.IsTuple a its.toArray from p) ?_
    refine ⟨s1.heap.objs.size, [s1.heap.objs.size], _, _, H1, rfl, I1.kept (t' := s1.toks) fun b o e => Heap.get?_push_of_some _ e, turn_tuple a _, ⟨_, Heap.get?_push_size _ rfl, rfl, rfl⟩, fun b hb => ?_, q⟩
    have e : b = s1.heap.objs.size := by simpa using hb
    subst e
    exact I1.fpOk (Nat.le_refl _) (I1.hok.fresh (Nat.le_refl _))
  · subst e
    obtain ⟨t, rfl⟩ := r1
    cases ha : z.cps.all (· < 128)
    · exact wpAny_pyIter_wide ha (pi_one (tk := s1.toks) I1 _ (turn_str _ z t "str_iterator" (.inr rfl)) ⟨_, Heap.get?_push_size _ rfl, rfl, rfl⟩ q)
    · exact wpAny_pyIter_ascii ha (pi_one (tk := s1.toks) I1 _ (turn_str _ z t "str_ascii_iterator" (.inl rfl)) ⟨_, Heap.get?_push_size _ rfl, rfl, rfl⟩ q)
def iEnA (K : PySem.W.Frag) (te : TE) : TI := fun σ H R => te σ H fun x H1 => (∃ a xs, x = .ref a ∧ SqL K H1 a xs ∧ R (Ite K a) H1) ∨ (∃ a xs, x = .ref a ∧ SqT K H1 a xs ∧ R (IteT K a) H1) ∨ ∃ z, x = .str z ∧ R (IteS z) H1
theorem pi_enumA {e : Expr} {te : TE} {p pos tpos : Pos} {elts : List Expr} {kk : Nat} (hg : Gl X "enumerate") (hm : X.mg "enumerate" = none) (ha : PE X e te) (hs : starEach [e] X.env = (false, eval e X.env) :: starEach [] X.env) :
    PI X (.Tuple elts kk tpos) (.Call (.Name "enumerate" p) [e] [] pos) (iEnA X.K te) := by
  refine ⟨fun pins s σ H R I h => ?_⟩
  refine Call_ (ld_blt I hg hm boot_enumerate (PyProof.Rows.callWith_type1 (one_arg ha I h (fun v s1 x H1 I1 r q => ?_) hs) hs))
  have app : ∀ (fp : List Addr), (∀ b ∈ fp, b = s1.heap.objs.size + 1 ∨ b = s1.heap.objs.size) → ∀ b ∈ fp, FpOk X pins H1 b := fun fp hfp b hb => by
    have hle : s1.heap.objs.size ≤ b := by
      rcases hfp b hb with z | z
      · rw [z]; exact Nat.le_add_right _ _
      · rw [z]; exact Nat.le_refl _
    exact I1.fpOk hle (I1.hok.fresh hle)
  rcases q with ⟨a, xs, rfl, hq, q⟩ | ⟨a, xs, rfl, hq, q⟩ | ⟨z, rfl, q⟩
  · obtain rfl : v = Value.ref a := r
    obtain ⟨its, rv, p', hz⟩ := I1.list hq
    refine call_enumerate_list p'.isList fun h' he hit hsz hk => wpAny_pyIter_enum he ?_
    have I2 : Inv X pins σ H1 { s1 with heap := h' } := I1.kept (t' := s1.toks) hk
    exact ⟨s1.heap.objs.size + 1, [s1.heap.objs.size + 1, s1.heap.objs.size], _, _, H1, rfl, I2, turn_enum a (s1.heap.objs.size + 1) s1.heap.objs.size, ⟨⟨.none, he⟩, hit, Nat.succ_ne_self _⟩, app _ (by simp), q⟩
  · obtain rfl : v = Value.ref a := r
    obtain ⟨its, rv, p', hz⟩ := I1.tuple hq
    refine ti_enum_begins (begins_tuple a its.toArray) p' fun h' he hit hsz hk => wpAny_pyIter_enum he ?_
    have I2 : Inv X pins σ H1 { s1 with heap := h' } := I1.kept (t' := s1.toks) hk
    exact ⟨s1.heap.objs.size + 1, [s1.heap.objs.size + 1, s1.heap.objs.size], _, _, H1, rfl, I2, turn_enumT a (s1.heap.objs.size + 1) s1.heap.objs.size, ⟨⟨.none, he⟩, ⟨_, hit, rfl, rfl⟩, Nat.succ_ne_self _⟩, app _ (by simp), q⟩
  · obtain ⟨t, rfl⟩ := r
    refine ti_enum_begins (begins_text z t) trivial fun h' he hit hsz hk => wpAny_pyIter_enum he ?_
    have I2 : Inv X pins σ H1 { s1 with heap := h' } := I1.kept (t' := s1.toks) hk
    exact ⟨s1.heap.objs.size + 1, [s1.heap.objs.size + 1, s1.heap.objs.size], _, _, H1, rfl, I2, turn_enumS z t (s1.heap.objs.size + 1) s1.heap.objs.size, ⟨⟨.none, he⟩, ⟨_, hit, rfl, rfl⟩, Nat.succ_ne_self _⟩, app _ (by simp), q⟩
end
end TI
set_option Elab.async false
set_option linter.all false
set_option maxRecDepth 100000
set_option maxHeartbeats 4000000
namespace TI
open PySem PySem.Spec PyProof.Rows L2
section
variable {X : Cx} {Z : Spc}
theorem joinS_eq (sep : List Nat) : ∀ ss : List (List Nat), Txt.join (S sep) (ss.map S) = S (joinS sep ss) := by
  intro ss
  rw [TL.join_eq]
  induction ss with
  | nil => rfl
  | cons x r ih =>
    cases r with
    | nil => rfl
    | cons y r =>
      simp only [List.map_cons] at ih ⊢
      show S x ++ S sep ++ Str.join (S sep) (S y :: r.map S) = _
      rw [ih, S_app, S_app]
      simp [joinS]
theorem sumLen_eq : ∀ ss : List (List Nat), ((ss.map S).map (·.length)).sum = sumLen ss
  | [] => rfl
  | x :: r => by
    simp only [List.map_cons, List.sum_cons, sumLen]
    rw [sumLen_eq r, S_len]
theorem find_eq : True := trivial
def rVM (K : PySem.W.Frag) (Z : Spc) (f : D → List D → M D) : V → List V → Hp → VK → Prop := fun x vs H Q => ∃ B d1 ds d g, Den K Z.r H B x d1 ∧ DenL K Z.r H B vs ds ∧ BOk B H ∧ f d1 ds g = .ok d g ∧ ∀ v H', Same H H' → Den K Z.r H' B v d → Q v H'
def Mt.T : Mt → String
  | .join => "str" | .find => "str" | .get => "dict"
def Mt.id : Mt → String
  | .join => "str.join" | .find => "str.find" | .get => "dict.get"
theorem mtr_met (hu : X.A.units + 200 < cLine) (m : Mt) : MtR X m.id (rVM X.K Z (metD m)) := by
  intro pins s σ H x vs v us Q I rx rs h
  obtain ⟨B, d1, ds, d, g, h1, h2, bk, e, q⟩ := h
  unfold metD at e
  split at e
  case h_1 sep xs =>
    obtain ⟨w, rfl, k2⟩ := den1 h2
    obtain ⟨a, ws, rfl, e1, n1, l1⟩ := lst_of k2
    cases h1
    cases en : strsOf xs with
    | none => simp only [en] at e; exact (stk_ok e).elim
    | some ss =>
      simp only [en] at e
      obtain ⟨c, e⟩ := grd_ok e
      obtain ⟨rfl, _⟩ := pure_ok e
      have c := of_decide_eq_true c
      cases strs_of en
      rw [l1.strs] at e1
      refine mt_join pins s σ H _ _ v us Q I rx rs ⟨_, a, ss.map S, rfl, rfl, .inl (by rw [List.map_map]; exact SqL.of e1), ?_, ?_⟩
      · rw [sumLen_eq, List.length_map, S_len]; exact c
      · rw [joinS_eq]; exact q _ _ (Same.refl H) (.str _)
  case h_2 ks vs' kd dd =>
    obtain ⟨w, w2, rfl, k2, k3⟩ := den2 h2
    cases hk : kyOf kd with
    | none => simp only [hk] at e; exact (stk_ok e).elim
    | some k =>
      simp only [hk] at e
      obtain ⟨rfl, _⟩ := pure_ok e
      obtain ⟨p, o, rfl, g1, g2, g3⟩ := dget_K h1 k2 hk
      obtain rfl : v = Value.ref p := rx
      obtain ⟨u1, u2, rfl, r1, r2⟩ := Vals.two rs
      refine d_get2 (by omega) I g1 r1 r2 fun w' s' I' rw' => ⟨_, H, I', rw', ?_⟩
      cases hl : lookA k ks vs' with
      | none =>
        rw [hl] at g3
        cases g3
        rw [hl] at q
        exact q _ _ (Same.refl H) k3
      | some z =>
        rw [hl] at g3
        obtain ⟨y, rfl, hy⟩ := g3
        rw [hl] at q
        exact q _ _ (Same.refl H) hy
  case h_3 ks vs' kd dd =>
    obtain ⟨w, w2, rfl, k2, k3⟩ := den2 h2
    cases hk : kyT kd with
    | none => simp only [hk] at e; exact (stk_ok e).elim
    | some k =>
      simp only [hk] at e
      obtain ⟨rfl, _⟩ := pure_ok e
      obtain ⟨p, o, rfl, g1, g2, g3⟩ := dget_T h1 k2 hk
      obtain rfl : v = Value.ref p := rx
      obtain ⟨u1, u2, rfl, r1, r2⟩ := Vals.two rs
      refine d_get2 (by omega) I g1 r1 r2 fun w' s' I' rw' => ⟨_, H, I', rw', ?_⟩
      cases hl : lookA k ks vs' with
      | none =>
        rw [hl] at g3
        cases g3
        rw [hl] at q
        exact q _ _ (Same.refl H) k3
      | some z =>
        rw [hl] at g3
        obtain ⟨y, rfl, hy⟩ := g3
        rw [hl] at q
        exact q _ _ (Same.refl H) hy
  case h_4 => exact (stk_ok e).elim
theorem pr_met (m : Mt) (d : D) (ds : List D) : Pr (metD m d ds) := by
  unfold metD
  split
  · split
    · exact .grd .ret
    · exact .stk
  · split
    · exact .ret
    · exact .stk
  · split
    · exact .ret
    · exact .stk
  · exact .stk
theorem pr_bin (o : Operator) (a b : D) : Pr (binD o a b) := by
  unfold binD
  split <;> first | exact .ret | exact .grd .ret | exact .stk
theorem pr_in (a b : D) : Pr (inD a b) := by
  unfold inD
  split
  · split
    · exact .ret
    · exact .stk
  · exact .grd .ret
  · exact .grd .ret
  · split
    · exact .ret
    · exact .stk
  · split
    · exact .ret
    · exact .stk
  · exact .stk
theorem pr_cmp (o : CmpOp) (a b : D) : Pr (cmpD o a b) := by
  unfold cmpD
  split
  · exact .grd .ret
  · exact .bind (.grd .ret) fun _ => .ret
  · exact .ret
  · exact .ret
  · exact .ret
  · exact .ret
  · exact .ret
  · exact pr_in _ _
  · exact .bind (pr_in _ _) fun _ => .ret
  · exact .ret
  · exact .ret
  · exact .stk
theorem pr_sub (a b : D) : Pr (subD a b) := by
  unfold subD
  split
  · exact .opt
  · exact .opt
  · refine .grd ?_
    split
    · exact .ret
    · exact .stk
  · split
    · exact .opt
    · exact .stk
  · split
    · exact .opt
    · exact .stk
  · exact .stk
theorem pr_slc (a : D) (l h : Option Int) : Pr (slcD a l h) := by
  unfold slcD
  split <;> first | exact .ret | exact .grd .ret | exact .stk
theorem pr_blt (b : Bl) (ds : List D) : Pr (bltD b ds) := by
  unfold bltD
  split <;> first | exact .ret | exact .grd .ret | exact .stk | (split <;> first | exact .ret | exact .stk)
theorem pr_asB (d : D) : Pr (asB d) := by
  unfold asB
  split
  · exact .ret
  · exact .stk
theorem pr_asI (d : D) : Pr (asI d) := by
  unfold asI
  split
  · exact .ret
  · exact .stk
theorem pr_items (d : D) : Pr (itemsD d) := by
  unfold itemsD
  split <;> first | exact .ret | exact .stk
theorem pr_seq (d : D) : Pr (seqD d) := by
  unfold seqD
  split <;> first | exact .ret | exact .stk
theorem pr_zip (d e : D) : Pr (zip2 d e) := by
  unfold zip2
  split <;> first | exact .ret | exact .stk
theorem pr_rng (ds : List D) : Pr (rngOf ds) := by
  unfold rngOf
  split <;> first | exact .grd .ret | exact .stk
theorem asB_ok {d : D} {g g' : G} {b : Bool} (h : asB d g = .ok b g') : d = .bl b := by
  unfold asB at h
  split at h
  · obtain ⟨rfl, _⟩ := pure_ok h; rfl
  · exact (stk_ok h).elim
theorem asI_ok {d : D} {g g' : G} {b : Int} (h : asI d g = .ok b g') : d = .int b := by
  unfold asI at h
  split at h
  · obtain ⟨rfl, _⟩ := pure_ok h; rfl
  · exact (stk_ok h).elim
end
end TI
set_option Elab.async false
set_option linter.all false
set_option maxRecDepth 100000
set_option maxHeartbeats 8000000
/-! THE THEOREM for expressions -/
namespace TI
open PySem PySem.Spec PyProof.Rows L2

structure Cov (X : Cx) (Z : Spc) (k : Nat) (cs : List (Str × Sem)) (gs : List (Str × D)) : Prop where
  c : ∀ p ∈ cs, GFX X Z k p
  g : ∀ p ∈ gs, GGX X Z p
section
variable {X : Cx} {Z : Spc} {k : Nat}
theorem Cov.l {cs cs' : List (Str × Sem)} {gs gs' : List (Str × D)} (h : Cov X Z k (cs ++ cs') (gs ++ gs')) : Cov X Z k cs gs := ⟨fun p hp => h.c p (List.mem_append_left _ hp), fun p hp => h.g p (List.mem_append_left _ hp)⟩
theorem Cov.r {cs cs' : List (Str × Sem)} {gs gs' : List (Str × D)} (h : Cov X Z k (cs ++ cs') (gs ++ gs')) : Cov X Z k cs' gs' := ⟨fun p hp => h.c p (List.mem_append_right _ hp), fun p hp => h.g p (List.mem_append_right _ hp)⟩
end
section
variable {X : Cc} {Z : Spc} {W : WX} {k : Nat} {sc : Scope}
/-- two in a row, then what is asked of the values -/
theorem seq2 {va vb vs : List Nat} {fa fb : Nat} {ma mb : List Sl → M D} {σ : L2.St} {H : Hp} {R : V → V → Hp → Prop} {α : Type} {B : Addr → Prop} {ρ : List Sl} {g : G} {ok : α → G → Hp → Prop} {f : D → D → M α}
    (p : Pre X Z B ρ g σ H (va ++ vb)) (h : Wr Z H ok (erW X Z B W σ) ((do let x ← ma ρ; let y ← mb ρ; f x y) g))
    (q : ∀ d1 d2 g2 v1 v2 H2, Pre X Z B ρ g2 σ H2 (va ++ vb) → Fr Z.F H H2 → Den X.K Z.r H2 B v1 d1 → Den X.K Z.r H2 B v2 d2 → Wr Z H2 ok (erW X Z B W σ) (f d1 d2 g2) → R v1 v2 H2) :
    tM X Z W va fa ma σ H fun x H1 => tM X Z W vb fb mb σ H1 fun y H2 => R x y H2 := by
  refine ⟨B, ρ, g, p.l, (Wr.bind h).mono fun d1 g1 H1 f1 a1 h1 v1 n1 _ => ?_⟩
  refine ⟨B, ρ, g1, (p.step f1 a1).r, (Wr.bind h1).mono fun d2 g2 H2 f2 a2 h2 v2 n2 _ => ?_⟩
  exact q d1 d2 g2 v1 v2 H2 ((p.step f1 a1).step f2 a2) (f1.trans f2) ((p.step f1 a1).den f2 n1) n2 h2
theorem seq1 {va : List Nat} {fa : Nat} {ma : List Sl → M D} {σ : L2.St} {H : Hp} {R : V → Hp → Prop} {α : Type} {B : Addr → Prop} {ρ : List Sl} {g : G} {ok : α → G → Hp → Prop} {f : D → M α}
    (p : Pre X Z B ρ g σ H va) (h : Wr Z H ok (erW X Z B W σ) ((do let x ← ma ρ; f x) g))
    (q : ∀ d1 g1 v1 H1, Pre X Z B ρ g1 σ H1 va → Fr Z.F H H1 → Den X.K Z.r H1 B v1 d1 → Wr Z H1 ok (erW X Z B W σ) (f d1 g1) → R v1 H1) :
    tM X Z W va fa ma σ H fun x H1 => R x H1 :=
  ⟨B, ρ, g, p, (Wr.bind h).mono fun d1 g1 H1 f1 a1 h1 v1 n1 _ => q d1 g1 v1 H1 (p.step f1 a1) f1 n1 h1⟩
/-- the end of a value that neither raises nor changes the state -/
theorem fin_pr {B : Addr → Prop} {H H1 : Hp} {fr : Nat} {Q : VK} {m : M D} {g : G} {er : Er → G → Hp → Prop} (pm : Pr m) (h : Wr Z H1 (okD X Z B H fr Q) er (m g)) (at1 : Z.At g H1) (nf : fr = 0) :
    ∃ d, m g = .ok d g ∧ ∀ v H', Same H1 H' → Den X.K Z.r H' B v d → Q v H' := by
  obtain ⟨d, e, k⟩ := Wr.ofPr pm h at1
  exact ⟨d, e, fun v H' s n => k H' (sameFr s) (at_same Z at1 s) v n (by rw [nf]; exact fsh0)⟩
theorem fin_prB {H1 : Hp} {Q : Bool → Hp → Prop} {m : M Bool} {g : G} {er : Er → G → Hp → Prop} (pm : Pr m) (h : Wr Z H1 (okB Q) er (m g)) (at1 : Z.At g H1) :
    ∃ d, m g = .ok d g ∧ Q d H1 := by
  obtain ⟨d, e, k⟩ := Wr.ofPr pm h at1
  exact ⟨d, e, k H1 .refl at1⟩
/-- by another way to say the same -/
theorem tM_val {vs : List Nat} {fr : Nat} {m : List Sl → M Bool} {n : List Sl → M D} (e : ∀ ρ, n ρ = (do pure (.bl (← m ρ)))) {σ : L2.St} {H : Hp} {Q : VK} (h : tM X Z W vs fr n σ H Q) (nf : fr = 0) : tMB X Z W vs m σ H fun b H' => Q (.bl b) H' := by
  obtain ⟨B, ρ, g, p, h⟩ := h
  rw [e ρ] at h
  exact ⟨B, ρ, g, p, (Wr.bind h).mono fun b g1 H1 f1 a1 h1 => Wr.pure h1 a1 _ (.bl b) (by rw [nf]; exact fsh0)⟩
end
section
variable {X : Cx} {Z : Spc} {W : WX} {k : Nat} {sc : Scope}
theorem pt_ite {c a b : Expr} {pos : Pos} {tc ta tb : TT} (hc : PT X c tc) (ha : PT X a ta) (hb : PT X b tb) : PT X (.IfExp c a b pos) (fun σ H Q => tc σ H fun k H1 => if k = true then ta σ H1 Q else tb σ H1 Q) := by
  refine ⟨fun pins s σ H Q I h => ?_⟩
  show wpAny (model X.prog X.w) X.A (do if ← isTrue c X.env (eval c X.env) then isTrue a X.env (eval a X.env) else isTrue b X.env (eval b X.env)) _ _ s
  refine wpAny_bind (thn (hc.run pins s σ H _ I h) fun k s1 ⟨H1, I1, q⟩ => ?_)
  cases k with
  | true => exact ha.run pins s1 σ H1 Q I1 (by simpa using q)
  | false => exact hb.run pins s1 σ H1 Q I1 (by simpa using q)
end
theorem ite_bind {α β : Type} {c : Prop} [Decidable c] (a b : M α) (f : α → M β) : ((if c then a else b) >>= f) = if c then a >>= f else b >>= f := by
  split <;> rfl
theorem blt_boot (b : Bl) : bootBuiltins b.name = some b.val := by cases b <;> decide +kernel
theorem blt_bn (b : Bl) : b.name ∈ bnames := by cases b <;> decide +kernel
theorem pe_blt {X : Cx} {b : Bl} {r : List V → Hp → VK → Prop} {es : List Expr} {e : Expr} {t : TA} {p pos : Pos} (hc : CallR X b.val r) (hg : Gl X b.name) (hm : X.mg b.name = none) (ha : PA X (e :: es) t)
    (he : starEach (e :: es) X.env = (false, eval e X.env) :: starEach es X.env) (hpl : (backTo pos (starEach es X.env)).any (·.1) = false) : PE X (.Call (.Name b.name p) (e :: es) [] pos) (tCB r t) := by
  cases b <;> first
    | exact pe_callB hc hg hm (blt_boot _) ha (by decide) (by decide) he hpl
    | exact pe_callTy hc hg hm (blt_boot _) ha (by decide) (by decide) he hpl
theorem ty_boot (t : Ty) : bootBuiltins t.name = some (.type (match t with | .bool => "bool" | .int => "int" | .str => "str" | .tuple => "tuple" | .list => "list")) := by cases t <;> decide +kernel
def Ty.ty : Ty → String
  | .bool => "bool" | .int => "int" | .str => "str" | .tuple => "tuple" | .list => "list"
theorem ty_bn (b : Ty) : b.name ∈ bnames := by cases b <;> decide +kernel
theorem kit_non (t : Ty) : kitB "NoneType" t.ty = some false := by cases t <;> decide +kernel
theorem kit_bl (t : Ty) : kitB "bool" t.ty = some (decide (t = .bool ∨ t = .int)) := by cases t <;> decide +kernel
theorem kit_int (t : Ty) : kitB "int" t.ty = some (decide (t = .int)) := by cases t <;> decide +kernel
theorem kit_str (t : Ty) : kitB "str" t.ty = some (decide (t = .str)) := by cases t <;> decide +kernel
theorem kit_tup (t : Ty) : kitB "tuple" t.ty = some (decide (t = .tuple)) := by cases t <;> decide +kernel
theorem kit_lst (t : Ty) : kitB "list" t.ty = some (decide (t = .list)) := by cases t <;> decide +kernel
theorem kit_dic (t : Ty) : kitB "dict" t.ty = some false := by cases t <;> decide +kernel
theorem isi_one {X : Cc} {Z : Spc} {H : Hp} {B : Addr → Prop} {v : V} {d : D} (h : Den X.K Z.r H B v d) (o : tyOk d = true) : ∃ n, TyX X.K H v (.type n) ∧ ∀ t : Ty, kitB n t.ty = some (isTy d t) := by
  cases h with
  | non => exact ⟨_, .base .non, fun t => (kit_non t).trans (by cases t <;> rfl)⟩
  | bl b => exact ⟨_, .base (.bl b), fun t => (kit_bl t).trans (by cases t <;> rfl)⟩
  | int i => exact ⟨_, .base (.int i), fun t => (kit_int t).trans (by cases t <;> rfl)⟩
  | str s => exact ⟨_, .base (.str _), fun t => (kit_str t).trans (by cases t <;> rfl)⟩
  | tup h1 _ => exact ⟨_, .base (.tup h1), fun t => (kit_tup t).trans (by cases t <;> rfl)⟩
  | lst h1 _ _ => exact ⟨_, .base (.lst h1), fun t => (kit_lst t).trans (by cases t <;> rfl)⟩
  | dK h1 _ _ _ => exact ⟨_, .base (.dK h1), fun t => (kit_dic t).trans (by cases t <;> rfl)⟩
  | dT h1 _ _ _ => exact ⟨_, .base (.dT h1), fun t => (kit_dic t).trans (by cases t <;> rfl)⟩
  | wel => cases o
end TI
set_option Elab.async false
set_option linter.all false
set_option maxRecDepth 100000
set_option maxHeartbeats 8000000
namespace TI
open PySem PySem.Spec PyProof.Rows L2

/-! ### targets -/
def SlOk (X : Cc) (Z : Spc) (B : Addr → Prop) (H : Hp) (ρ : List Sl) (σ : L2.St) (i : Nat) : Prop := ∀ d, vget ρ i = some d → ∃ v, σ[i]? = some (some v) ∧ Den X.K Z.r H B v d
mutual
def gT (K : PySem.W.Frag) : Tg → TG
  | .nm i => gName i
  | .tp ts => gTup K ts.len (gTs K ts)
def gTs (K : PySem.W.Frag) : Tgs → TGs
  | .nil => gNil
  | .cons t ts => gCons (gT K t) (gTs K ts)
end
section
variable {X : Cx} {Z : Spc} {sc : Scope}
theorem mTs_len {N : List Str} : ∀ {ts : Tgs} {es : List Expr}, mTs N sc ts es = true → es.length = ts.len
  | .nil, [], _ => rfl
  | .nil, _ :: _, h => by simp [mTs] at h
  | .cons _ _, [], h => by simp [mTs] at h
  | .cons t ts, e :: es, h => by
    simp only [mTs, Bool.and_eq_true] at h
    simp [Tgs.len, mTs_len h.2]
theorem asg_cons {t : Tg} {e : Expr} {es : List Expr} {env : Env} {N : List Str} (h : mT N sc t e = true) : assignEach (e :: es) env = (false, assign e env) :: assignEach es env := by
  cases e <;> first | rfl | (cases t <;> simp [mT] at h)
theorem asg_len {env : Env} {N : List Str} : ∀ {ts : Tgs} {es : List Expr}, mTs N sc ts es = true → (assignEach es env).length = ts.len ∧ (assignEach es env).findIdx? (·.1) = none
  | .nil, [], _ => ⟨rfl, rfl⟩
  | .nil, _ :: _, h => by simp [mTs] at h
  | .cons _ _, [], h => by simp [mTs] at h
  | .cons t ts, e :: es, h => by
    simp only [mTs, Bool.and_eq_true] at h
    obtain ⟨h1, h2⟩ := asg_len (env := env) h.2
    rw [asg_cons h.1]
    refine ⟨by simp [Tgs.len, h1], ?_⟩
    rw [List.findIdx?_cons]
    simp [h2]
mutual
theorem pg_of (nd : X.N.Nodup) (calm : X.calm = true) (hl : ∀ x, sc.names.lookup x = some .local → X.env.scope.names.lookup x = some .local) (hc : ∀ x, sc.names.lookup x = some .cell → X.env.scope.names.lookup x = some .cell ∧ X.fn x = true) :
    ∀ (t : Tg) (e : Expr), mT X.N sc t e = true → PG X e (gT X.K t)
  | .nm i, e, h => by
    cases e with
    | Name x pos =>
      simp only [mT, Bool.and_eq_true, Bool.or_eq_true, decide_eq_true_eq] at h
      rcases h.2 with q | q
      · exact pg_name nd h.1 (.inl (hl x q)) (.inr (hl x q))
      · exact pg_name nd h.1 (.inr (hc x q).1) (.inl (hc x q).2)
    | _ => simp [mT] at h
  | .tp ts, e, h => by
    cases e with
    | Tuple es kk pos =>
      simp only [mT] at h
      exact pg_tup calm (pgs_of nd calm hl hc ts es h) (n := ts.len) (asg_len h).1 (asg_len h).2
    | _ => simp [mT] at h
theorem pgs_of (nd : X.N.Nodup) (calm : X.calm = true) (hl : ∀ x, sc.names.lookup x = some .local → X.env.scope.names.lookup x = some .local) (hc : ∀ x, sc.names.lookup x = some .cell → X.env.scope.names.lookup x = some .cell ∧ X.fn x = true) :
    ∀ (ts : Tgs) (es : List Expr), mTs X.N sc ts es = true → PGs X es (gTs X.K ts)
  | .nil, [], _ => pgs_nil
  | .nil, _ :: _, h => by simp [mTs] at h
  | .cons _ _, [], h => by simp [mTs] at h
  | .cons t ts, e :: es, h => by
    simp only [mTs, Bool.and_eq_true] at h
    have h1 := pg_of nd calm hl hc t e h.1
    refine pgs_cons h1 (pgs_of nd calm hl hc ts es h.2) ?_
    rw [asg_cons h.1]; rfl
end
end
section
variable {X : Cc} {Z : Spc} {sc : Scope}
variable {B : Addr → Prop} {H : Hp} {K : PySem.W.Frag}
theorem vget_set {ρ : List Sl} {i j : Nat} {s : Sl} : vget (ρ.set i s) j = if i = j ∧ j < ρ.length then s.d else vget ρ j := by
  unfold vget
  by_cases e : i = j
  · subst e
    by_cases h : i < ρ.length
    · rw [if_pos ⟨rfl, h⟩, List.getElem?_set_self h]; rfl
    · rw [if_neg fun z => h z.2, List.set_eq_of_length_le (by omega)]
  · rw [if_neg fun z => e z.1, List.getElem?_set_ne e]
theorem slOk_set {ρ : List Sl} {σ : L2.St} {i j : Nat} {d : D} {v : V} (hi : i < σ.length) (h : Den X.K Z.r H B v d) (p : i ≠ j → SlOk X Z B H ρ σ j) : SlOk X Z B H (ρ.set i (.val d)) (σ.set i (some v)) j := by
  intro d' e
  rw [vget_set] at e
  by_cases q : i = j
  · subst q
    split at e
    · cases e
      exact ⟨v, List.getElem?_set_self hi, h⟩
    · rename_i z
      have : ¬ i < ρ.length := fun y => z ⟨rfl, y⟩
      unfold vget at e
      rw [List.getElem?_eq_none (by omega)] at e
      cases e
  · rw [if_neg fun z => q z.1] at e
    obtain ⟨w, h1, h2⟩ := p q d' e
    exact ⟨w, by rw [List.getElem?_set_ne q]; exact h1, h2⟩
theorem wipe_set {σ : L2.St} {i : Nat} {x : Option V} : ∀ {vs : List Nat}, i ∈ vs → wipe (σ.set i x) vs = wipe σ vs
  | [], h => by cases h
  | v :: vs, h => by
    simp only [wipe]
    rcases List.mem_cons.mp h with e | e
    · subst e
      by_cases q : i ∈ vs
      · rw [wipe_set q]
      · have key : ∀ ws : List Nat, i ∉ ws → wipe (σ.set i x) ws = (wipe σ ws).set i x := fun ws => by
          induction ws with
          | nil => intro _; rfl
          | cons w ws ih =>
            intro hw
            simp only [List.mem_cons, not_or] at hw
            simp only [wipe]
            rw [ih hw.2, List.set_comm _ _ hw.1]
        rw [key vs q, List.set_set]
    · rw [wipe_set e]
theorem wipe_get {σ : L2.St} {i : Nat} : ∀ {vs : List Nat}, i ∉ vs → (wipe σ vs)[i]? = σ[i]?
  | [], _ => rfl
  | v :: vs, h => by
    simp only [List.mem_cons, not_or] at h
    simp only [wipe]
    rw [List.getElem?_set_ne (Ne.symm h.1)]
    exact wipe_get h.2
theorem wipeS_get {ρ : List Sl} {i : Nat} {d : D} : ∀ {vs : List Nat}, vget (wipeS ρ vs) i = some d → i ∉ vs ∧ vget ρ i = some d
  | [], h => ⟨by simp, h⟩
  | v :: vs, h => by
    simp only [wipeS] at h
    rw [vget_set] at h
    split at h
    · cases h
    · rename_i q
      obtain ⟨h1, h2⟩ := wipeS_get h
      refine ⟨?_, h2⟩
      simp only [List.mem_cons, not_or]
      refine ⟨fun e => q ⟨e.symm, ?_⟩, h1⟩
      by_cases z : i < (wipeS ρ vs).length
      · exact z
      · unfold vget at h
        rw [List.getElem?_eq_none (by omega)] at h
        cases h
/-- after the target is bound -/
structure Bd (X : Cc) (Z : Spc) (B : Addr → Prop) (H : Hp) (P : Nat → Prop) (ws : List Nat) (ρ : List Sl) (σ : L2.St) (ρ' : List Sl) (σ' : L2.St) : Prop where
  len : σ'.length = σ.length
  sl : ∀ i, P i → SlOk X Z B H ρ' σ' i
  wp : ∀ vs : List Nat, (∀ i ∈ ws, i ∈ vs) → wipe σ' vs = wipe σ vs
mutual
theorem bindT_g : ∀ (t : Tg) (d : D) (ρ : List Sl) (g : G) (ρ' : List Sl) (g' : G), bindT t d ρ g = .ok ρ' g' → g' = g
  | .nm i, d, ρ, g, ρ', g', h => by
    unfold bindT at h
    obtain ⟨rfl, rfl⟩ := pure_ok h; rfl
  | .tp ts, d, ρ, g, ρ', g', h => by
    unfold bindT at h
    split at h
    · exact (bindTs_g ts _ ρ g ρ' g' h).1
    · exact (stk_ok h).elim
theorem bindTs_g : ∀ (ts : Tgs) (ds : List D) (ρ : List Sl) (g : G) (ρ' : List Sl) (g' : G), bindTs ts ds ρ g = .ok ρ' g' → g' = g ∧ ds.length = ts.len
  | .nil, [], ρ, g, ρ', g', h => by
    unfold bindTs at h
    obtain ⟨rfl, rfl⟩ := pure_ok h; exact ⟨rfl, rfl⟩
  | .nil, _ :: _, ρ, g, ρ', g', h => by unfold bindTs at h; exact (stk_ok h).elim
  | .cons t ts, [], ρ, g, ρ', g', h => by unfold bindTs at h; exact (stk_ok h).elim
  | .cons t ts, d :: ds, ρ, g, ρ', g', h => by
    unfold bindTs at h
    obtain ⟨ρ1, g1, h1, h2⟩ := bind_ok h
    obtain ⟨e1, e2⟩ := bindTs_g ts ds ρ1 g1 ρ' g' h2
    exact ⟨e1.trans (bindT_g t d ρ g ρ1 g1 h1), by simp [Tgs.len, e2]⟩
end
mutual
theorem gT_bind {P : Nat → Prop} {N : List Str} : ∀ (t : Tg) (d : D) (v : V) (ρ : List Sl) (σ : L2.St) (g : G) (ρ' : List Sl) (g' : G) (e : Expr) (Q : L2.St → Hp → Prop), mT N sc t e = true → σ.length = N.length →
    bindT t d ρ g = .ok ρ' g' → Den X.K Z.r H B v d → (∀ i, P i → SlOk X Z B H ρ σ i) → (∀ σ', Bd X Z B H P t.ws ρ σ ρ' σ' → Q σ' H) → gT X.K t v σ H Q
  | .nm i, d, v, ρ, σ, g, ρ', g', e, Q, hm, hl, hb, hv, hp, q => by
    unfold bindT at hb
    obtain ⟨rfl, rfl⟩ := pure_ok hb
    refine q _ ⟨by simp, fun j hj => ?_, fun vs h => wipe_set (h i (by simp [Tg.ws]))⟩
    have hi : i < σ.length := by
      cases e with
      | Name x pos =>
        simp only [mT, Bool.and_eq_true, decide_eq_true_eq] at hm
        rw [hl]
        exact (List.getElem?_eq_some_iff.mp hm.1).1
      | _ => simp [mT] at hm
    exact slOk_set hi hv fun _ => hp j hj
  | .tp ts, d, v, ρ, σ, g, ρ', g', e, Q, hm, hl, hb, hv, hp, q => by
    unfold bindT at hb
    split at hb
    · rename_i ds
      obtain ⟨a, vs, rfl, h1, h2⟩ := sqT_tup hv
      cases e with
      | Tuple es kk pos =>
        simp only [mT] at hm
        exact ⟨a, vs, rfl, SqT.of h1, h2.length.trans (bindTs_g ts ds ρ g ρ' g' hb).2, gTs_bind ts ds vs ρ σ g ρ' g' es Q hm hl hb h2 hp q⟩
      | _ => simp [mT] at hm
    · exact (stk_ok hb).elim
theorem gTs_bind {P : Nat → Prop} {N : List Str} : ∀ (ts : Tgs) (ds : List D) (vs : List V) (ρ : List Sl) (σ : L2.St) (g : G) (ρ' : List Sl) (g' : G) (es : List Expr) (Q : L2.St → Hp → Prop), mTs N sc ts es = true → σ.length = N.length →
    bindTs ts ds ρ g = .ok ρ' g' → DenL X.K Z.r H B vs ds → (∀ i, P i → SlOk X Z B H ρ σ i) → (∀ σ', Bd X Z B H P ts.ws ρ σ ρ' σ' → Q σ' H) → gTs X.K ts vs σ H Q
  | .nil, [], vs, ρ, σ, g, ρ', g', es, Q, hm, hl, hb, hv, hp, q => by
    cases hv
    unfold bindTs at hb
    obtain ⟨rfl, rfl⟩ := pure_ok hb
    exact ⟨rfl, q σ ⟨rfl, hp, fun _ _ => rfl⟩⟩
  | .nil, _ :: _, vs, ρ, σ, g, ρ', g', es, Q, hm, hl, hb, hv, hp, q => by
    unfold bindTs at hb; exact (stk_ok hb).elim
  | .cons t ts, [], vs, ρ, σ, g, ρ', g', es, Q, hm, hl, hb, hv, hp, q => by
    unfold bindTs at hb; exact (stk_ok hb).elim
  | .cons t ts, d :: ds, vs, ρ, σ, g, ρ', g', es, Q, hm, hl, hb, hv, hp, q => by
    cases es with
    | nil => simp [mTs] at hm
    | cons e es =>
      simp only [mTs, Bool.and_eq_true] at hm
      unfold bindTs at hb
      obtain ⟨ρ1, g1, hb1, hb2⟩ := bind_ok hb
      cases hv with
      | cons h1 h2 =>
        rename_i v vs
        exact ⟨v, vs, rfl, gT_bind t d v ρ σ g ρ1 g1 e (fun σ1 H1 => gTs X.K ts vs σ1 H1 Q) hm.1 hl hb1 h1 hp fun σ1 b1 =>
          gTs_bind ts ds vs ρ1 σ1 g1 ρ' g' es Q hm.2 (b1.len.trans hl) hb2 h2 b1.sl fun σ' b2 => q σ' ⟨b2.len.trans b1.len, b2.sl, fun ws h => by
            rw [b2.wp ws fun i hi => h i (by simp [Tgs.ws, hi]), b1.wp ws fun i hi => h i (by simp [Tgs.ws, hi])]⟩⟩
end
end
end TI
set_option Elab.async false
set_option linter.all false
set_option maxRecDepth 100000
set_option maxHeartbeats 8000000
namespace TI
open PySem PySem.Spec PyProof.Rows L2

def okI (X : Cc) (Z : Spc) (B : Addr → Prop) (rg : Bool) (R : L2.It → Hp → Prop) : List D → G → Hp → Prop := fun ds _ H' => ∀ J, (∀ B' : Addr → Prop, (∀ a, B' a → B a ∨ rg = true) → WalkD X Z B' H' J ds) → R J H'
def tI (X : Cc) (Z : Spc) (W : WX) (rg : Bool) (vs : List Nat) (m : List Sl → M (List D)) : TI := fun σ H R => ∃ B ρ g, Pre X Z B ρ g σ H vs ∧ Wr Z H (okI X Z B rg R) (erW X Z B W σ) (m ρ g)
abbrev W0 : WX := fun _ _ _ _ => False
mutual
theorem pr_bindT : ∀ (t : Tg) (d : D) (ρ : List Sl), Pr (bindT t d ρ)
  | .nm i, d, ρ => by unfold bindT; exact .ret
  | .tp ts, d, ρ => by
    unfold bindT
    split
    · exact pr_bindTs ts _ ρ
    · exact .stk
theorem pr_bindTs : ∀ (ts : Tgs) (ds : List D) (ρ : List Sl), Pr (bindTs ts ds ρ)
  | .nil, [], ρ => by unfold bindTs; exact .ret
  | .nil, _ :: _, ρ => by unfold bindTs; exact .stk
  | .cons _ _, [], ρ => by unfold bindTs; exact .stk
  | .cons t ts, d :: ds, ρ => by
    unfold bindTs
    exact .bind (pr_bindT t d ρ) fun ρ' => pr_bindTs ts ds ρ'
end
theorem live {Z : Spc} {g : G} {H H1 : Hp} {p : Addr} (f : Fr Z.F H H1) (a : Z.At g H1) (n : H p ≠ none) : H1 p ≠ none := fun z => n (new_back f a z)
theorem Den.there {K : PySem.W.Frag} {r : Addr} {H : Hp} {B : Addr → Prop} {v : V} {d : D} {p : Addr} (h : Den K r H B v d) (e : v = .ref p) : d = .wel ∨ ∃ o, H p = some o := by
  cases h with
  | tup h1 _ => cases e; exact .inr ⟨_, h1⟩
  | lst h1 _ _ => cases e; exact .inr ⟨_, h1⟩
  | dK h1 _ _ _ => cases e; exact .inr ⟨_, h1⟩
  | dT h1 _ _ _ => cases e; exact .inr ⟨_, h1⟩
  | wel => exact .inl rfl
  | _ => cases e
theorem wipe_idem {σ : L2.St} (vs : List Nat) : ∀ ws : List Nat, (∀ i ∈ ws, i ∈ vs) → wipe (wipe σ ws) vs = wipe σ vs
  | [], _ => rfl
  | w :: ws, h => by
    simp only [wipe]
    rw [wipe_set (h w List.mem_cons_self)]
    exact wipe_idem vs ws fun i hi => h i (List.mem_cons_of_mem _ hi)
section
variable {X : Cc} {Z : Spc} {W : WX}
theorem lc_red {it : It} {tg : Tg} {c : Op} {e : Ex} {own : List (Str × Nat)} {N : List Str} {sc' : Scope} {tge : Expr} {σ : L2.St} {H : Hp} {Q : VK} (hN : N.length = X.n) (hm : mT N sc' tg tge = true) (hws : ∀ i ∈ tg.ws, i ∈ own.map (·.2))
    (h : tM X Z W (Ex.comp tg it c e own).vs (Ex.comp tg it c e own).fresh (ev (.comp tg it c e own)) σ H Q) :
    tLc (tI X Z W it.isR it.vs (evIt it)) (gT X.K tg) (tMB X Z W0 c.vs (evC c)) (tM X Z W0 e.vs e.fresh (ev e)) (own.map (·.2)) σ H Q := by
  obtain ⟨B, ρ, g, p, h⟩ := h
  unfold ev at h
  have h : Wr Z H (okD X Z B H (Ex.comp tg it c e own).fresh Q) (erW X Z B W σ) _ := h
  refine ⟨B, ρ, g, p.l, (Wr.bind h).mono fun ds g1 H1 f1 a1 h1 J wd => ?_⟩
  obtain ⟨cl, h1⟩ := Wr.grd h1
  have cl : ds.length ≤ sizeLine := by rw [← line_eq]; exact of_decide_eq_true cl
  have h1 := Wr.bindB h1
  intro Dd nD
  -- what is not to be met: B and the new list
  let C : Addr → Prop := fun a => B a ∨ a = Dd
  have p1 := p.step f1 a1
  have nBD : ¬ B Dd := not_B p1.bok nD
  have nFD : ¬ Z.F Dd := fun z => nBD (p.sub _ z)
  have hC : ∀ a, C a → B a ∨ H1 a = none := fun a hc => by
    rcases hc with hc | rfl
    · exact .inl hc
    · exact .inr nD
  have hC0 : ∀ a, C a → B a ∨ H a = none := fun a hc => by
    rcases hc with hc | rfl
    · exact .inl hc
    · exact .inr (new_back f1 a1 nD)
  have wc := wd B (fun a h => .inl h) C hC
  let F : D → M (Option D) := fun d => do
        let ρ' ← bindT tg d (wipeS ρ (own.map (·.2)))
        let k ← nox (evC c ρ')
        if k = true then do pure (some (← nox (ev e ρ'))) else pure none
  let okF : List D → List D → G → Hp → Prop := fun acc ys g2 _ => Wr Z H1 (okD X Z B H (Ex.comp tg it c e own).fresh Q) (erW X Z B W σ) ((pure (D.lst (acc ++ ys)) : M D) g2)
  let Kd : Hp → List V → List D → Prop := fun Hi accV accD => 1 ≤ e.fresh → accD.all isCont = true → ∃ qs : List Addr, accV = qs.map .ref ∧ qs.Nodup ∧ ∀ q ∈ qs, H1 q = none ∧ q ≠ Dd ∧ Hi q ≠ none
  let Pv : Nat → Hp → Prop := fun i Hi => ∃ gi accV accD, Fr Z.F H1 Hi ∧ Z.At gi Hi ∧ Hi Dd = some (.lst accV) ∧ DenL X.K Z.r Hi C accV accD ∧ accD.length ≤ i ∧ Kd Hi accV accD ∧
    Wr Z H1 (okF accD) (erW X Z B W σ) (compL F (ds.drop i) gi)
  let Gd : Hp → Prop := fun Hi => Fr C H1 Hi ∧ BOk C Hi
  let Y : Nat → Hp → V → Hp → Prop := fun i Hi x H' => Same Hi H' ∧ ∃ d, ds[i]? = some d ∧ Den X.K Z.r H' C x d
  have wk : Walk J ds.length Gd Y := ⟨fun i Hi hi gd => wc.goes i Hi hi gd.1, fun Hi gd => wc.stops Hi gd.1, fun i Hi x H' hi gd y => wc.yields i Hi x H' hi gd.1 gd.2 y⟩
  have subC : ∀ a, Z.F a → C a := fun a z => .inl (p.sub a z)
  have bokC : ∀ {Hi gi accV}, Fr Z.F H1 Hi → Z.At gi Hi → Hi Dd = some (.lst accV) → BOk C Hi := fun {Hi gi accV} f a eD x hx => by
    rcases hx with hx | rfl
    · exact bok_step p.sub p1.bok f a x hx
    · exact ⟨_, eD, rfl⟩
  refine lc_it wk Pv ?_ ?_ ?_ ?_
  · -- the start
    refine ⟨g1, [], [], Fr.new nD, at_same Z a1 (same_upd nD), upd_same, .nil, Nat.le_refl _, fun _ _ => ⟨[], rfl, .nil, by simp⟩, ?_⟩
    rw [List.drop_zero]
    exact h1
  · rintro i Hi _ ⟨gi, accV, accD, f, a, eD, _⟩
    exact ⟨f.mono subC, bokC f a eD⟩
  · -- a turn
    rintro i x Hi H' hi ⟨gi, accV, accD, f, a, eD, lD, hlen, kd, hw⟩ ⟨sm, d, hd, hx⟩
    have ed : ds.drop i = d :: ds.drop (i + 1) := by
      have hlt := (List.getElem?_eq_some_iff.mp hd).1
      rw [List.drop_eq_getElem_cons hlt, (List.getElem?_eq_some_iff.mp hd).2]
    rw [ed] at hw
    rw [compL] at hw
    have hw := Wr.bindB hw
    have hw := Wr.bindB (show Wr Z H1 _ (erW X Z B W σ) ((bindT tg d (wipeS ρ (own.map (·.2))) >>= fun ρ' => (do
        let k ← nox (evC c ρ')
        if k = true then do pure (some (← nox (ev e ρ'))) else pure none)) gi) from hw)
    have f' : Fr Z.F H1 H' := f.trans (sameFr sm)
    have a' : Z.At gi H' := at_same Z a sm
    rcases pr_bindT tg d (wipeS ρ (own.map (·.2))) gi with ⟨ρ', eb⟩ | eb
    · rw [eb] at hw
      have hw := hw H' f' a'
      have eD' : H' Dd = some (.lst accV) := sm _ _ eD
      have fH : Fr Z.F H H' := f1.trans f'
      -- the slots
      have sl0 : ∀ j, (j ∈ own.map (·.2) ∨ j ∈ (Ex.comp tg it c e own).vs) → SlOk X Z C H' (wipeS ρ (own.map (·.2))) (wipe σ (own.map (·.2))) j := by
        intro j hj d' ej
        obtain ⟨nj, ej⟩ := wipeS_get ej
        rcases hj with hj | hj
        · exact absurd hj nj
        · obtain ⟨w, h2, h3⟩ := p.sl j hj d' ej
          refine ⟨w, by rw [wipe_get nj]; exact h2, ?_⟩
          exact Den.frM (fH.mono subC) (bm_new p.bok hC0) d' w (den_new hC0 h3)
      refine gT_bind (sc := sc') (N := N) tg d x _ _ gi ρ' gi tge _ hm (by rw [wipe_length, hN]; exact p.len) eb hx sl0 fun σ2 bd => ?_
      refine ⟨(bd.wp _ hws).trans (wipe_idem _ _ fun _ h => h), ?_⟩
      have pre : ∀ {gj : G} {Hj : Hp} {vs : List Nat}, (∀ j ∈ vs, j ∈ c.vs ++ e.vs) → Fr Z.F H' Hj → Z.At gj Hj → BOk C Hj → Pre X Z C ρ' gj σ2 Hj vs := fun {gj Hj vs} hvs fj aj bj => by
        refine ⟨subC, bj, aj, by rw [bd.len, wipe_length]; exact p.len, fun j hj d' ej => ?_⟩
        have hj' : j ∈ own.map (·.2) ∨ j ∈ (Ex.comp tg it c e own).vs := by
          by_cases q : j ∈ own.map (·.2)
          · exact .inl q
          · refine .inr ?_
            show j ∈ it.vs ++ (c.vs ++ e.vs).filter fun i => !(own.map (·.2)).contains i
            refine List.mem_append_right _ (List.mem_filter.mpr ⟨hvs j hj, ?_⟩)
            simp only [Bool.not_eq_true', List.contains_eq_mem, decide_eq_false_iff_not]
            exact q
        obtain ⟨w, h2, h3⟩ := bd.sl j hj' d' ej
        exact ⟨w, h2, Den.fr (fj.mono subC) (bokC f' a' eD') d' w h3⟩
      -- the test
      refine ⟨C, ρ', gi, pre (fun j hj => List.mem_append_left _ hj) .refl a' (bokC f' a' eD'), ?_⟩
      have hw1 := Wr.bindB hw
      refine ((Wr.nox hw1).from f').mono (fun b g3 H3 f3 a3 h3 => ?_) |>.monoE fun _ _ _ z => z.elim
      have f13 : Fr Z.F H1 H3 := f'.trans f3
      have eD3 : H3 Dd = some (.lst accV) := f3 _ _ eD' nFD
      show if b = true then _ else _
      cases b with
      | false =>
        rw [if_neg Bool.false_ne_true] at h3 ⊢
        refine ⟨g3, accV, accD, f13, a3, eD3, DenL.fr (f3.mono subC) (bokC f' a' eD') _ _ (DenL.fr (sameFr sm) (bokC f a eD) _ _ lD), Nat.le_succ_of_le hlen, (fun z1 z2 => by
          obtain ⟨qs, k1, k2, k3⟩ := kd z1 z2
          exact ⟨qs, k1, k2, fun q hq => ⟨(k3 q hq).1, (k3 q hq).2.1, live f3 a3 (live (sameFr sm) a' (k3 q hq).2.2)⟩⟩), ?_⟩
        have h4 := Wr.bindB (h3 H3 f13 a3)
        exact h4.mono fun ys g4 H4 f4 a4 q => q H4 f4 a4
      | true =>
        rw [if_pos rfl] at h3 ⊢
        have h4 := Wr.bindB h3
        refine ⟨C, ρ', g3, pre (fun j hj => List.mem_append_right _ hj) f3 a3 (bokC f13 a3 eD3), ?_⟩
        refine ((Wr.nox h4).from f13).mono (fun y g5 H5 f5 a5 h5 vy ny fy => ?_) |>.monoE fun _ _ _ z => z.elim
        have f15 : Fr Z.F H1 H5 := f13.trans f5
        have eD5 : H5 Dd = some (.lst accV) := f5 _ _ eD3 nFD
        have lD5 : DenL X.K Z.r H5 C accV accD := DenL.fr (f5.mono subC) (bokC f13 a3 eD3) _ _ (DenL.fr (f3.mono subC) (bokC f' a' eD') _ _ (DenL.fr (sameFr sm) (bokC f a eD) _ _ lD))
        have b5 := bokC f15 a5 eD5
        have hlt : accV.length < sizeLine := by
          rw [lD5.length]
          have : i < ds.length := hi
          omega
        refine ⟨accV, eD5, hlt, g5, accV ++ [vy], accD ++ [y], ?_, ?_, upd_same, ?_, ?_, ?_, ?_⟩
        · intro q o eq nq
          have : q ≠ Dd := fun z => by rw [z, nD] at eq; cases eq
          rw [upd_ne this]
          exact f15 q o eq nq
        · refine Z.loc a5 fun q o fq eq => ?_
          have : q ≠ Dd := fun z => nFD (z ▸ fq)
          rw [upd_ne this]; exact eq
        · exact (DenL.fr (Fr.put (.inr rfl)) b5 _ _ lD5).append (.cons (Den.fr (Fr.put (.inr rfl)) b5 _ _ ny) .nil)
        · rw [List.length_append, List.length_singleton]; omega
        · intro z1 z2
          rw [List.all_append, Bool.and_eq_true] at z2
          obtain ⟨qs, k1, k2, k3⟩ := kd z1 z2.1
          obtain ⟨q, rfl, hq⟩ := fy.a z1 (by simpa using z2.2)
          have lv : ∀ x ∈ qs, H3 x ≠ none := fun x hx => live f3 a3 (live (sameFr sm) a' (k3 x hx).2.2)
          have nq : q ∉ qs := fun z => lv q z hq
          have qD : q ≠ Dd := fun z => by rw [z, eD3] at hq; cases hq
          refine ⟨qs ++ [q], by rw [k1]; simp, ?_, fun x hx => ?_⟩
          · rw [List.nodup_append]
            refine ⟨k2, by simp, fun x hx y hy => ?_⟩
            obtain rfl : y = q := by simpa using hy
            exact fun z => nq (z ▸ hx)
          · rcases List.mem_append.mp hx with hx | hx
            · exact ⟨(k3 x hx).1, (k3 x hx).2.1, by rw [upd_ne (k3 x hx).2.1]; exact live f5 a5 (lv x hx)⟩
            · obtain rfl : x = q := by simpa using hx
              refine ⟨new_back f13 a3 hq, qD, ?_⟩
              rw [upd_ne qD]
              rcases ny.there rfl with z | ⟨o, eo⟩
              · rw [z] at z2; simp [isCont] at z2
              · rw [eo]; simp
        · have h6 := Wr.bindB (h5 H5 f15 a5)
          exact h6.mono fun ys g6 H6 f6 a6 q => by
            show Wr Z H1 _ _ ((pure (D.lst ((accD ++ [y]) ++ ys)) : M D) g6)
            rw [List.append_assoc]
            exact q H6 f6 a6
    · rw [eb] at hw; exact hw.elim
  · -- the end
    rintro Hn ⟨gn, accV, accD, f, a, eD, lD, _, kd, hw⟩
    rw [List.drop_length] at hw
    have hw := hw Hn f a
    have hw := hw Hn f a
    rw [List.append_nil] at hw
    refine hw (.ref Dd) (.lst eD nBD (DenL.ban (fun q o _ _ n b => n (.inl b)) _ _ lD)) ⟨fun _ _ => ⟨Dd, rfl, new_back f1 a1 nD⟩, fun z1 z2 p ep => ?_⟩
    cases ep
    obtain ⟨qs, k1, k2, k3⟩ := kd (by
      unfold Ex.fresh at z1
      split at z1 <;> omega) z2
    exact ⟨qs, by rw [eD, k1], k2, fun q hq => ⟨new_back f1 a1 (k3 q hq).1, (k3 q hq).2.1⟩⟩
end
end TI
set_option Elab.async false
set_option linter.all false
set_option maxRecDepth 100000
set_option maxHeartbeats 8000000
/-! sorted({.. for .. in ..}) -/
namespace TI
open PySem PySem.Spec PyProof.Rows L2 PpSet
def tSx (w : World) (wi : L2.TI) (g : TG) (tt : TT) (te : TE) (vs : List Nat) : TE := fun σ H Q => wi σ H fun J H1 => ∀ D, H1 D = none → ∃ W : Nat → Nat → Hp → Prop, (∃ m, W 0 m (upd H1 D (SetX w D []))) ∧ ∀ i m H, W i m H →
  (J.stop i H ∧ Q (.ref D) H) ∨ (J.go i H ∧ ∃ Nx : Hp → Prop, (∀ H', Nx H' → ∃ m', m' < m ∧ W (i + 1) m' H') ∧ ∀ x H', J.yld i H x H' → g x (wipe σ vs) H' fun σ2 H2 => wipe σ2 vs = wipe σ vs ∧ tt σ2 H2 fun b H3 =>
    if b = true then te σ2 H3 fun y H4 => ∃ (k : Ky) (ks : List Ky), y = kV k.k ∧ H4 D = some (SetX w D ks) ∧ ks.length + 1 < scanBound ∧ Nx (upd H4 D (SetX w D (addK ks k))) else Nx H3)
section
variable {X : Cx}
theorem pe_sx {elt tg iter : Expr} {ifs : List Expr} {scope : Scope} {own : List (Str × Nat)} {pos : Pos} {wi : L2.TI} {g : TG} {tt : TT} {te : TE} (hc : X.calm = true) (hN : X.N.Nodup) (hi : PI X tg iter wi) (ok : BlkOk X.N X.env.scope scope own)
    (hg : ∀ (s : Shared) (H : Hp) (C : Addr) (cl : List (Str × Addr)) (fp : List Addr), PG (X.blk s H scope (compEnvC scope cl C X.env) fp) tg g) (ht : ∀ (s : Shared) (H : Hp) (C : Addr) (cl : List (Str × Addr)) (fp : List Addr), PTs (X.blk s H scope (compEnvC scope cl C X.env) fp) ifs tt)
    (he : ∀ (s : Shared) (H : Hp) (C : Addr) (cl : List (Str × Addr)) (fp : List Addr), PE (X.blk s H scope (compEnvC scope cl C X.env) fp) elt te) (hs : ∀ x, foldedSetIterable iter X.env x = pure x) :
    PE X (.SetComp elt [⟨tg, iter, ifs, 0⟩] scope pos) (tSx X.w wi g tt te (own.map (·.2))) := by
  refine ⟨fun pins s σ H Q I h => ?_⟩
  rw [eval_SetComp]
  have hfree : ∀ y ∈ scope.names, y.2 = .free → ∃ c, X.env.cells.lookup y.1 = some c := fun y hy e => by
    rcases ok.free y hy e with k | k
    · exact I.ok.has _ (.inl k)
    · exact I.ok.has _ (.inr k)
  refine wpAny_comprehension_free (use := none) rfl hs (closure_ok hfree) ok.kind (fun y hy e => by rw [ok.uniq y hy, e])
    (thn (hi.run pins s σ H _ I h) fun xv s1 hx => thn hx fun itv s2 h2 => ?_)
  obtain ⟨it, fp, tn, J, H2, e, I2, T, st2, f2, q⟩ := h2
  subst e
  refine newSet_ok (newEnv_comp ?_)
  generalize hD : s2.heap.objs.size = D
  obtain ⟨W, ⟨m0, w0⟩, turn⟩ := q D (I2.hok.fresh (Nat.le_of_eq hD))
  generalize hs3 : ({ s2 with heap := s2.heap.push { cls := .type "set", dict := none, data := .set #[] 0 (.fresh 0 0 (!X.w.params.followText "set-order")) } } : Shared) = s3
  have I3 : Inv X pins σ (upd H2 D (SetX X.w D [])) s3 := by
    rw [← hs3]
    refine I2.laid (t' := s2.toks) (fun b o e => Heap.get?_push_of_some _ e) (Nat.le_of_eq hD) ?_
    rw [← hD]
    exact setX_new (setW_fresh X.w)
  have h3 : s3.heap = s2.heap.push { cls := .type "set", dict := none, data := .set #[] 0 (.fresh 0 0 (!X.w.params.followText "set-order")) } := by rw [← hs3]
  have sz : ∀ b ∈ fp, b < s2.heap.objs.size := fun b hb => by
    obtain ⟨o, e, _⟩ := T.obj _ _ st2 b hb
    exact Heap.lt_size e
  have f3 : ∀ b ∈ fp, FpOk X pins (upd H2 D (SetX X.w D [])) b ∧ b < s3.heap.objs.size := fun b hb => by
    refine ⟨⟨?_, (f2 b hb).2⟩, by rw [h3, Heap.size_push]; exact Nat.lt_succ_of_lt (sz b hb)⟩
    rw [upd_ne (by rw [← hD]; exact Nat.ne_of_lt (sz b hb))]
    exact (f2 b hb).1
  have st3 : tn 0 s3.heap := T.keep _ _ _ st2 fun b _ o e => by rw [h3]; exact Heap.get?_push_of_some _ e
  have I4 := block_start I3 ok hN f3
  have pg := hg s3 (upd H2 D (SetX X.w D [])) s3.heap.objs.size (cellsFrom (s3.heap.objs.size + 1) scope.names (cloFrom X.env.cells scope.names [])) fp
  have pt := ht s3 (upd H2 D (SetX X.w D [])) s3.heap.objs.size (cellsFrom (s3.heap.objs.size + 1) scope.names (cloFrom X.env.cells scope.names [])) fp
  have pe := he s3 (upd H2 D (SetX X.w D [])) s3.heap.objs.size (cellsFrom (s3.heap.objs.size + 1) scope.names (cloFrom X.env.cells scope.names [])) fp
  show codeAny _ _ (.compStart (.SetComp elt [⟨tg, iter, ifs, 0⟩] scope pos) 0 (.ref it) (.ref D) (compEnvC scope (cellsFrom (s3.heap.objs.size + 1) scope.names (cloFrom X.env.cells scope.names [])) s3.heap.objs.size X.env)) (compPost (model X.prog X.w) X.A X.xe none (EP X pins σ Q) (.ref D) s3.heap.objs.size) { s3 with heap := pushCells (s3.heap.push { cls := .type "dict", data := .dict #[] }) scope.names }
  have nfp : ∀ b ∈ fp, (upd H2 D (SetX X.w D [])) b = none := fun b hb => (f3 b hb).1.1
  generalize hce : compEnvC scope (cellsFrom (s3.heap.objs.size + 1) scope.names (cloFrom X.env.cells scope.names [])) s3.heap.objs.size X.env = ce at I4 pg pt pe ⊢
  have cL : ce.locals = s3.heap.objs.size := by subst hce; rfl
  generalize hH3 : upd H2 D (SetX X.w D []) = H3 at I3 I4 pg pt pe w0 nfp f3
  generalize hs4 : ({ s3 with heap := pushCells (s3.heap.push { cls := .type "dict", data := .dict #[] }) scope.names } : Shared) = s4 at I4 ⊢
  have st4 : tn 0 s4.heap := T.keep _ _ _ st3 fun b _ o e => by rw [← hs4]; exact pushCells_keeps _ _ _ _ (Heap.get?_push_of_some _ e)
  have stat : ∀ {σ' : L2.St} {H' : Hp} {s' : Shared}, Inv (X.blk s3 H3 scope ce fp) [] σ' H' s' → (∀ b ∈ fp, H' b = none) → ∀ b ∈ fp, FpOk (X.blk s3 H3 scope ce fp) [] H' b := fun {σ' H' s'} I' hn b hb =>
    ⟨hn b hb, (I'.ok.exf b hb).1, I'.ok.exfs b hb, .inl hb, fun x c e => (I'.ok.exf b hb).2 x c e, fun p hp => absurd (show p ∈ ([] : List (Addr × Obj)) ++ [] from hp) (by simp)⟩
  have loop : codeAny (model X.prog X.w) X.A (.compLoop (.SetComp elt [⟨tg, iter, ifs, 0⟩] scope pos) 0 (.ref it) (.ref D) ce) (compPost (model X.prog X.w) X.A X.xe none (EP X pins σ Q) (.ref D) s3.heap.objs.size) s4 := by
    refine compLoopS_any (fun n s' => ∃ i H', Inv (X.blk s3 H3 scope ce fp) [] (wipe σ (own.map (·.2))) H' s' ∧ tn i s'.heap ∧ (∀ b ∈ fp, H' b = none) ∧ W i n H') ?_ m0 ⟨0, H3, I4, st4, nfp, w0⟩
    rintro n s5 ⟨i, H5, I5, st5, n5, w5⟩
    rcases turn i n H5 w5 with ⟨stop, qq⟩ | ⟨go, Nx, hNx, step⟩
    · refine thnF (T.done (X.blk s3 H3 scope ce fp) rfl rfl rfl hc i [] s5 _ H5 (fun _ _ => False) I5 (stat I5 n5) st5 stop) fun r s6 ⟨hr, I6⟩ => ?_
      subst hr
      have I7 : Inv X pins σ H5 s6 := I3.call' (ch := fp) I6.os I6.base I6.hok I6.bare fun b hb => ⟨(f3 b hb).1.2.2.2.1, (f3 b hb).1.2.1, (f3 b hb).1.2.2.2.2.1, (f3 b hb).1.2.2.2.2.2⟩
      have nC : H5 s3.heap.objs.size = none := by
        have z : H5 ce.locals = none := I6.free
        rw [cL] at z
        exact z
      obtain ⟨m, hn, _⟩ := I6.loc
      have hn : s6.heap.Ns ce.locals m := hn
      rw [cL] at hn
      obtain ⟨f0, f1, f2', f3', f4, f5⟩ := I3.fpOk (Nat.le_refl _) nC
      exact ⟨m, hn, fun h'' sb => ⟨.ref D, H5, I7.turned (t' := s6.toks) (fun b o hb e => (sb.2 b hb).trans e) f0 f1 f3' f4 f5, rfl, qq⟩⟩
    · refine thnF (T.item (X.blk s3 H3 scope ce fp) rfl rfl rfl hc i [] s5 _ H5 (fun _ _ => False) I5 (stat I5 n5) st5 go) fun r s6 ⟨u, hr, h6⟩ => ?_
      subst hr
      refine thnF h6 fun _ s7 ⟨x, H7, I7, r7, y7, st7, n7⟩ => ?_
      have I7' := I7.pinned (stat I7 n7) (T.obj _ _ st7)
      refine thnF (pg.run _ s7 _ H7 x u _ I7' r7 (step x H7 y7)) fun _ s8 ⟨σ8, H8, I8, hw8, q8⟩ => ?_
      refine thnF (pt.run _ s8 σ8 H8 _ I8 q8) fun b s9 ⟨H9, I9, q9⟩ => ?_
      have fin : ∀ {s' : Shared} {H' : Hp}, Inv (X.blk s3 H3 scope ce fp) ([] ++ pinsAt fp s7.heap) σ8 H' s' → Nx H' → ∃ m, m < n ∧ ∃ i H', Inv (X.blk s3 H3 scope ce fp) [] (wipe σ (own.map (·.2))) H' s' ∧ tn i s'.heap ∧ (∀ b ∈ fp, H' b = none) ∧ W i m H' := fun {s' H'} I' nx => by
        obtain ⟨m', hm, w'⟩ := hNx H' nx
        have pin' : ∀ b ∈ fp, ∀ o, s7.heap.get? b = some o → s'.heap.get? b = some o ∧ H' b = none := fun b hb o e =>
          let z := I'.pin (b, o) (List.mem_append_right _ (List.mem_append_right _ (mem_pinsAt hb e)))
          ⟨z.1, z.2.1⟩
        have hl : (wipe σ (own.map (·.2))).length = σ8.length := by rw [← hw8, wipe_length]
        refine ⟨m', hm, i + 1, H', (I'.unpinned (pins := [])).weak hl (fun j v e => ?_), T.keep _ _ _ st7 fun b hb o e => (pin' b hb o e).1, fun b hb => ?_, w'⟩
        · rw [← hw8] at e
          exact (wipe_some e).1
        · obtain ⟨o, e, _⟩ := T.obj _ _ st7 b hb
          exact (pin' b hb o e).2
      cases b with
      | false =>
        simp only [Bool.false_eq_true, if_false] at q9 ⊢
        exact fin I9 q9
      | true =>
        simp only [if_true] at q9 ⊢
        refine thnF (pe.run _ s9 σ8 H9 _ I9 q9) fun z s10 ⟨yv, H10, I10, r10, k0, ks0, ey, hD10, hz10, nx⟩ => ?_
        subst ey
        exact addX_ok (X := X.blk s3 H3 scope ce fp) I10 hD10 r10 hz10 fun s11 I11 => fin I11 nx
  exact codeAny_compStart_set loop (T.self X.A 0 _ _ _ st4 loop)
/-- sorted(s), s a set of keys -/
def rSx (K : PySem.W.Frag) (w : World) (Z : Spc) : List V → Hp → VK → Prop := fun vs H Q => ∃ (a : Addr) (ks : List Ky) (B : Addr → Prop), vs = [.ref a] ∧ H a = some (SetX w a ks) ∧ BOk B H ∧ srtOk (ks.map Ky.d) = true ∧
  ∀ v H', Same H H' → Den K Z.r H' B v (.lst (sortD (ks.map Ky.d))) → (∃ p, v = .ref p ∧ H p = none) → Q v H'
theorem srtOk_perm {ds es : List D} (p : es.Perm ds) (h : srtOk ds = true) : srtOk es = true := by
  cases es with
  | nil => rfl
  | cons e es =>
    unfold srtOk
    rw [Bool.and_eq_true]
    have he : e ∈ ds := p.mem_iff.mp List.mem_cons_self
    obtain ⟨m, ms, hs, _⟩ := srtOk_sh h (fun z => by subst z; simp at he)
    refine ⟨by rw [hs e he]; rfl, List.all_eq_true.mpr fun x hx => ?_⟩
    rw [hs e he, hs x (p.mem_iff.mp (List.mem_cons_of_mem _ hx))]
    exact decide_eq_true rfl
theorem vals_keys {w : World} : ∀ {vs : List Value}, (∀ v ∈ vs, keyIs (ktO v).k v = true) → Vals (((vs.map ktO).map Ky.k).map kV) vs
  | [], _ => .nil
  | v :: vs, h => by
    refine .cons ?_ (vals_keys (w := w) fun x hx => h x (List.mem_cons_of_mem _ hx))
    have hv := h v List.mem_cons_self
    rcases keyIs_shape hv with ⟨i, t, e, e2⟩ | ⟨x, t, e, e2⟩
    · rw [e, e2]; exact ⟨t, rfl⟩
    · rw [e, e2]; exact ⟨t, rfl⟩
theorem call_sx {Z : Spc} (hcalm : X.calm = true) : CallR X (.builtin "sorted") (rSx X.K X.w Z) := by
  intro pins s σ H xs us Q I rs h
  obtain ⟨a, ks, B, rfl, ha, bk, ok, q⟩ := h
  obtain rfl := Vals.ref1 rs
  obtain ⟨o, es, ep, t, ho, hex, hd, g, pm0, nd, hb, hf, hr, hl⟩ := setX_get I ha
  refine Calls.call_function_entry PyProof.Rows.kind_sorted PyProof.Rows.plain_sorted PyProof.Rows.entry_sorted (PyProof.Rows.args_sorted1 _) ?_
  unfold Builtin.«sorted»
  refine wpAny_bind (m := checkCount "sorted" 1 1 _) (wpAny_pure ?_)
  refine wpAny_bind (collect_set (A := X.A.in1) (I.ok.hd hcalm) ⟨o, ho, hex.1, hd⟩ hf hb hr hl fun s1 vs k1 hz g1 o1 pm => ?_)
  have I1 : Inv X pins σ H s1 := I.call' (ch := []) o1 (Un.kept k1) (I.hok.kept k1) (by rw [g1]; exact I.bare) (fun _ z => nomatch z)
  have kv : ∀ v ∈ vs, keyIs (ktO v).k v = true := fun v hv => by
    obtain ⟨e, he, rfl⟩ := List.mem_map.mp (pm.mem_iff.mp hv)
    exact (g e he).1
  have pk : (vs.map ktO).Perm ks := by
    have q := pm.map ktO
    rw [List.map_map] at q
    exact q.trans pm0
  have es' : sortD ((vs.map ktO).map Ky.d) = sortD (ks.map Ky.d) := sortD_uq ok ((sortD_perm _).trans (pk.map _)) (sortD_pw _)
  have hlen : vs.length ≤ sizeLine := by
    have e1 := pm.length_eq
    rw [List.length_map] at e1
    have e2 : es.toList.length = es.size := Array.length_toList
    have e3 : es.size < 4096 := hb
    rw [sizeLine_eq]
    omega
  exact sorted_acc (A := X.A.in1) I1 (vals_keys (w := X.w) kv) bk den_keys (srtOk_perm (pk.map _) ok) hlen (by rw [es']; exact q)
end
/-! ### by trees -/
section
variable {X : Cc} {Z : Spc} {W : WX}
theorem addK_len {k : Ky} {ks : List Ky} : (addK ks k).length ≤ ks.length + 1 := by
  unfold addK
  split
  · omega
  · simp
theorem sx_red {w : World} {it : It} {tg : Tg} {c : Op} {e : Ex} {own : List (Str × Nat)} {N : List Str} {sc' : Scope} {tge : Expr} {σ : L2.St} {H : Hp} {Q : VK} (hN : N.length = X.n) (hm : mT N sc' tg tge = true) (hws : ∀ i ∈ tg.ws, i ∈ own.map (·.2))
    (h : tM X Z W (Ex.ssc tg it c e own).vs 1 (ev (.ssc tg it c e own)) σ H Q) :
    tSx w (tI X Z W it.isR it.vs (evIt it)) (gT X.K tg) (tMB X Z W0 c.vs (evC c)) (tM X Z W0 e.vs e.fresh (ev e)) (own.map (·.2)) σ H fun x H1 => rSx X.K w Z [x] H1 Q := by
  obtain ⟨B, ρ, g, p, h⟩ := h
  unfold ev at h
  have h : Wr Z H (okD X Z B H 1 Q) (erW X Z B W σ) _ := h
  refine ⟨B, ρ, g, p.l, (Wr.bind h).mono fun ds g1 H1 f1 a1 h1 J wd => ?_⟩
  obtain ⟨cl, h1⟩ := Wr.grd h1
  have cl : ds.length ≤ 4000 := of_decide_eq_true cl
  have h1 := Wr.bindB h1
  intro Dd nD
  let C : Addr → Prop := fun a => B a ∨ a = Dd
  have p1 := p.step f1 a1
  have nBD : ¬ B Dd := not_B p1.bok nD
  have nFD : ¬ Z.F Dd := fun z => nBD (p.sub _ z)
  have hC : ∀ a, C a → B a ∨ H1 a = none := fun a hc => by
    rcases hc with hc | rfl
    · exact .inl hc
    · exact .inr nD
  have hC0 : ∀ a, C a → B a ∨ H a = none := fun a hc => by
    rcases hc with hc | rfl
    · exact .inl hc
    · exact .inr (new_back f1 a1 nD)
  have wc := wd B (fun a h => .inl h) C hC
  let F : D → M (Option Ky) := fun d => do
        let ρ' ← bindT tg d (wipeS ρ (own.map (·.2)))
        let k ← nox (evC c ρ')
        if k = true then do
          let y ← nox (ev e ρ')
          let q ← opt (kyOf y)
          pure (some q) else pure none
  let fin : List Ky → M D := fun ks => grd (srtOk ((ks.foldl addK []).map Ky.d)) (pure (.lst (sortD ((ks.foldl addK []).map Ky.d))))
  let okF : List Ky → List Ky → G → Hp → Prop := fun acc ys g2 _ => Wr Z H1 (okD X Z B H 1 Q) (erW X Z B W σ) (fin (acc ++ ys) g2)
  let Pv : Nat → Hp → Prop := fun i Hi => ∃ gi acc, Fr Z.F H1 Hi ∧ Z.At gi Hi ∧ Hi Dd = some (SetX w Dd (acc.foldl addK [])) ∧ acc.length ≤ i ∧ (acc.foldl addK []).length ≤ acc.length ∧
    Wr Z H1 (okF acc) (erW X Z B W σ) (compL F (ds.drop i) gi)
  let Gd : Hp → Prop := fun Hi => Fr C H1 Hi ∧ BOk C Hi
  let Y : Nat → Hp → V → Hp → Prop := fun i Hi x H' => Same Hi H' ∧ ∃ d, ds[i]? = some d ∧ Den X.K Z.r H' C x d
  have wk : Walk J ds.length Gd Y := ⟨fun i Hi hi gd => wc.goes i Hi hi gd.1, fun Hi gd => wc.stops Hi gd.1, fun i Hi x H' hi gd y => wc.yields i Hi x H' hi gd.1 gd.2 y⟩
  have subC : ∀ a, Z.F a → C a := fun a z => .inl (p.sub a z)
  have bokC : ∀ {Hi gi ks}, Fr Z.F H1 Hi → Z.At gi Hi → Hi Dd = some (SetX w Dd ks) → BOk C Hi := fun {Hi gi ks} f a eD x hx => by
    rcases hx with hx | rfl
    · exact bok_step p.sub p1.bok f a x hx
    · exact ⟨_, eD, rfl⟩
  refine ⟨fun i m Hi => m = ds.length - i ∧ i ≤ ds.length ∧ Pv i Hi, ⟨ds.length, by simp, Nat.zero_le _, g1, [], Fr.new nD, at_same Z a1 (same_upd nD), upd_same, Nat.le_refl _, Nat.le_refl _, by rw [List.drop_zero]; exact h1⟩, ?_⟩
  rintro i m Hi ⟨rfl, hi, gi, acc, f, a, eD, hlen, hal, hw⟩
  have gd : Gd Hi := ⟨f.mono subC, bokC f a eD⟩
  by_cases hlt : i < ds.length
  · refine .inr ⟨wk.goes i Hi hlt gd, Pv (i + 1), fun H' p' => ⟨ds.length - (i + 1), by omega, rfl, hlt, p'⟩, fun x H' y => ?_⟩
    obtain ⟨sm, d, hd, hx⟩ := wk.yields i Hi x H' hlt gd y
    have ed : ds.drop i = d :: ds.drop (i + 1) := by
      rw [List.drop_eq_getElem_cons hlt, (List.getElem?_eq_some_iff.mp hd).2]
    rw [ed] at hw
    rw [compL] at hw
    have hw := Wr.bindB hw
    have hw := Wr.bindB (show Wr Z H1 _ (erW X Z B W σ) ((bindT tg d (wipeS ρ (own.map (·.2))) >>= fun ρ' => (do
        let k ← nox (evC c ρ')
        if k = true then do
          let y ← nox (ev e ρ')
          let q ← opt (kyOf y)
          pure (some q) else pure none)) gi) from hw)
    have f' : Fr Z.F H1 H' := f.trans (sameFr sm)
    have a' : Z.At gi H' := at_same Z a sm
    rcases pr_bindT tg d (wipeS ρ (own.map (·.2))) gi with ⟨ρ', eb⟩ | eb
    · rw [eb] at hw
      have hw := hw H' f' a'
      have eD' : H' Dd = some (SetX w Dd (acc.foldl addK [])) := sm _ _ eD
      have fH : Fr Z.F H H' := f1.trans f'
      have sl0 : ∀ j, (j ∈ own.map (·.2) ∨ j ∈ (Ex.ssc tg it c e own).vs) → SlOk X Z C H' (wipeS ρ (own.map (·.2))) (wipe σ (own.map (·.2))) j := by
        intro j hj d' ej
        obtain ⟨nj, ej⟩ := wipeS_get ej
        rcases hj with hj | hj
        · exact absurd hj nj
        · obtain ⟨w, h2, h3⟩ := p.sl j hj d' ej
          refine ⟨w, by rw [wipe_get nj]; exact h2, ?_⟩
          exact Den.frM (fH.mono subC) (bm_new p.bok hC0) d' w (den_new hC0 h3)
      refine gT_bind (sc := sc') (N := N) tg d x _ _ gi ρ' gi tge _ hm (by rw [wipe_length, hN]; exact p.len) eb hx sl0 fun σ2 bd => ?_
      refine ⟨(bd.wp _ hws).trans (wipe_idem _ _ fun _ h => h), ?_⟩
      have pre : ∀ {gj : G} {Hj : Hp} {vs : List Nat}, (∀ j ∈ vs, j ∈ c.vs ++ e.vs) → Fr Z.F H' Hj → Z.At gj Hj → BOk C Hj → Pre X Z C ρ' gj σ2 Hj vs := fun {gj Hj vs} hvs fj aj bj => by
        refine ⟨subC, bj, aj, by rw [bd.len, wipe_length]; exact p.len, fun j hj d' ej => ?_⟩
        have hj' : j ∈ own.map (·.2) ∨ j ∈ (Ex.ssc tg it c e own).vs := by
          by_cases q : j ∈ own.map (·.2)
          · exact .inl q
          · refine .inr ?_
            show j ∈ it.vs ++ (c.vs ++ e.vs).filter fun i => !(own.map (·.2)).contains i
            refine List.mem_append_right _ (List.mem_filter.mpr ⟨hvs j hj, ?_⟩)
            simp only [Bool.not_eq_true', List.contains_eq_mem, decide_eq_false_iff_not]
            exact q
        obtain ⟨w, h2, h3⟩ := bd.sl j hj' d' ej
        exact ⟨w, h2, Den.fr (fj.mono subC) (bokC f' a' eD') d' w h3⟩
      refine ⟨C, ρ', gi, pre (fun j hj => List.mem_append_left _ hj) .refl a' (bokC f' a' eD'), ?_⟩
      have hw1 := Wr.bindB hw
      refine ((Wr.nox hw1).from f').mono (fun b g3 H3 f3 a3 h3 => ?_) |>.monoE fun _ _ _ z => z.elim
      have f13 : Fr Z.F H1 H3 := f'.trans f3
      have eD3 : H3 Dd = some (SetX w Dd (acc.foldl addK [])) := f3 _ _ eD' nFD
      show if b = true then _ else _
      cases b with
      | false =>
        rw [if_neg Bool.false_ne_true] at h3 ⊢
        refine ⟨g3, acc, f13, a3, eD3, Nat.le_succ_of_le hlen, hal, ?_⟩
        have h4 := Wr.bindB (h3 H3 f13 a3)
        exact h4.mono fun ys g4 H4 f4 a4 q => q H4 f4 a4
      | true =>
        rw [if_pos rfl] at h3 ⊢
        have h4 := Wr.bindB h3
        refine ⟨C, ρ', g3, pre (fun j hj => List.mem_append_right _ hj) f3 a3 (bokC f13 a3 eD3), ?_⟩
        refine ((Wr.nox h4).from f13).mono (fun y g5 H5 f5 a5 h5 vy ny fy => ?_) |>.monoE fun _ _ _ z => z.elim
        have f15 : Fr Z.F H1 H5 := f13.trans f5
        have eD5 : H5 Dd = some (SetX w Dd (acc.foldl addK [])) := f5 _ _ eD3 nFD
        have h6 := Wr.bindB h5
        obtain ⟨k0, ek, h6⟩ := Wr.opt (h6.from f15) a5
        have h7 := Wr.bindB (h6 H5 f15 a5)
        refine ⟨k0, acc.foldl addK [], kyOf_den ny ek, eD5, ?_, g5, acc ++ [k0], ?_, ?_, ?_, ?_, ?_, ?_⟩
        · show _ < 4096
          omega
        · intro q o eq nq
          have : q ≠ Dd := fun z => by rw [z, nD] at eq; cases eq
          rw [upd_ne this]
          exact f15 q o eq nq
        · refine Z.loc a5 fun q o fq eq => ?_
          have : q ≠ Dd := fun z => nFD (z ▸ fq)
          rw [upd_ne this]; exact eq
        · rw [List.foldl_append]; exact upd_same
        · rw [List.length_append, List.length_singleton]; omega
        · rw [List.foldl_append, List.length_append, List.length_singleton]
          have := addK_len (k := k0) (ks := acc.foldl addK [])
          show (addK (acc.foldl addK []) k0).length ≤ _
          omega
        · exact h7.mono fun ys g6 H6 f6 a6 q => by
            show Wr Z H1 _ _ (fin ((acc ++ [k0]) ++ ys) g6)
            rw [List.append_assoc]
            exact q H6 f6 a6
    · rw [eb] at hw; exact hw.elim
  · have ei : i = ds.length := by omega
    subst ei
    refine .inl ⟨wk.stops Hi gd, ?_⟩
    rw [List.drop_length] at hw
    have hw := hw Hi f a
    have hw : Wr Z H1 (okD X Z B H 1 Q) (erW X Z B W σ) (fin (acc ++ []) gi) := hw
    rw [List.append_nil] at hw
    obtain ⟨ok, hw⟩ := Wr.grd hw
    refine ⟨Dd, acc.foldl addK [], B, rfl, eD, bok_step p.sub p1.bok f a, ok, fun v H' sm n ⟨pp, e1, e2⟩ => ?_⟩
    exact hw H' (f.trans (sameFr sm)) (at_same Z a sm) v n ⟨fun _ _ => ⟨pp, e1, new_back (f1.trans f) a e2⟩, fun z => absurd z (by decide)⟩
end
end TI
set_option Elab.async false
set_option linter.all false
set_option maxRecDepth 100000
set_option maxHeartbeats 4000000
/-! a op b op c op d -/
namespace TI
open PySem PySem.Spec PyProof.Rows L2
variable {X : Cx} {a b c d : Expr} {ta tb tc td : TE} {pos : Pos}
def tChain3 (r r' r2 : R2) (ta tb tc td : TE) : TE := fun σ H Q => ta σ H fun x H1 => tb σ H1 fun y H2 => r x y H2 fun z H3 => ∃ k, z = .bl k ∧
  (if k = true then tc σ H3 fun z' H4 => r' y z' H4 fun u H5 => ∃ j, u = .bl j ∧ (if j = true then td σ H5 fun w' H6 => r2 z' w' H6 Q else Q (.bl false) H5) else Q (.bl false) H3)
theorem pe_chain3 {op op' op2 : CmpOp} {r r' r2 : R2} (ho : OpR X (compareOp op) r) (ho' : OpR X (compareOp op') r') (ho2 : OpR X (compareOp op2) r2) (ha : PE X a ta) (hb : PE X b tb) (hc : PE X c tc) (hd : PE X d td)
    (hm : lastMarks [op, op', op2] [b, c, d] = false := by with_unfolding_all rfl) : PE X (.Compare a [op, op', op2] [b, c, d] pos) (tChain3 r r' r2 ta tb tc td) := by
  refine ⟨fun pins s σ H Q I h => ?_⟩
  refine Compare_chain (thn (ha.run pins s σ H _ I h) fun v s1 ⟨x, H1, I1, r1, q1⟩ => chain_link (thn (hb.run pins s1 σ H1 _ I1 q1) fun u s2 ⟨y, H2, I2, r2', q2⟩ =>
    thn (ho pins s2 σ H2 x y v u _ I2 r1 r2' q2) fun d s3 ⟨z, H3, I3, r3, k, e, q3⟩ => ?_)) hm
  subst e
  cases r3
  refine wpAny_truthy_bool ?_
  cases k with
  | false => exact ite_ff ⟨.bl false, H3, I3, rfl, q3⟩
  | true =>
    refine ite_tt (chain_link (thn (hc.run pins s3 σ H3 _ I3 q3) fun w' s4 ⟨z', H4, I4, r4, q4⟩ => thn (ho' pins s4 σ H4 y z' u w' _ I4 r2' r4 q4) fun d' s5 ⟨z2, H5, I5, r5, k2, e2, q5⟩ => ?_))
    subst e2
    cases r5
    refine wpAny_truthy_bool ?_
    cases k2 with
    | false => exact ite_ff ⟨.bl false, H5, I5, rfl, q5⟩
    | true => exact ite_tt (chain_last (thn (hd.run pins s5 σ H5 _ I5 q5) fun w2 s6 ⟨z3, H6, I6, r6, q6⟩ => ho2 pins s6 σ H6 z' z3 w' w2 Q I6 r4 r6 q6))
theorem pt_chain3 {op op' op2 : CmpOp} {r r' r2 : R2} (ho : OpR X (compareOp op) r) (ho' : OpR X (compareOp op') r') (ho2 : OpR X (compareOp op2) r2) (ha : PE X a ta) (hb : PE X b tb) (hc : PE X c tc) (hd : PE X d td)
    (hm : lastMarks [op, op', op2] [b, c, d] = false := by with_unfolding_all rfl) : PT X (.Compare a [op, op', op2] [b, c, d] pos) (tTest (tChain3 r r' r2 ta tb tc td)) := by
  refine ⟨fun pins s σ H Q I h => ?_⟩
  refine isTrue_chain (thn (ha.run pins s σ H _ I h) fun v s1 ⟨x, H1, I1, r1, q1⟩ => test_link (thn (hb.run pins s1 σ H1 _ I1 q1) fun u s2 ⟨y, H2, I2, r2', q2⟩ =>
    thn (ho pins s2 σ H2 x y v u _ I2 r1 r2' q2) fun d s3 ⟨z, H3, I3, r3, k, e, q3⟩ => ?_)) hm
  subst e
  cases r3
  refine wpAny_truthy_bool ?_
  cases k with
  | false =>
    obtain ⟨k', e', q'⟩ := q3
    cases e'
    exact ite_ff ⟨H3, I3, q'⟩
  | true =>
    refine ite_tt (test_link (thn (hc.run pins s3 σ H3 _ I3 q3) fun w' s4 ⟨z', H4, I4, r4, q4⟩ => thn (ho' pins s4 σ H4 y z' u w' _ I4 r2' r4 q4) fun d' s5 ⟨z2, H5, I5, r5, k2, e2, q5⟩ => ?_))
    subst e2
    cases r5
    refine wpAny_truthy_bool ?_
    cases k2 with
    | false =>
      obtain ⟨k', e', q'⟩ := q5
      cases e'
      exact ite_ff ⟨H5, I5, q'⟩
    | true =>
      refine ite_tt (test_last (thn (hd.run pins s5 σ H5 _ I5 q5) fun w2 s6 ⟨z3, H6, I6, r6, q6⟩ => thn (ho2 pins s6 σ H6 z' z3 w' w2 _ I6 r4 r6 q6) fun d'' s7 ⟨z4, H7, I7, r7, k3, e3, q7⟩ => ?_))
      subst e3
      cases r7
      exact wpAny_truthy_bool ⟨H7, I7, q7⟩
end TI
set_option Elab.async false
set_option linter.all false
set_option maxRecDepth 100000
set_option maxHeartbeats 4000000
/-! x[::-1] of texts and lists -/
namespace TI
open PySem PySem.Spec PyProof.Rows L2
theorem rev_pick (x : Str) : ((Builtin.Str.strSliceIndices none none (-1) x.length).filterMap (x.cps[·]?)).toArray.toList = x.cps.toList.reverse := by
  rw [picked_rev, List.toList_toArray, filterMap_get]
  · rw [List.map_map]
    apply List.ext_getElem
    · simp [Str.length]
    · intro i h1 h2
      simp [Str.length] at h1 h2 ⊢
      rw [Array.getElem_eq_getD 0]
      simp
  · intro i hi
    obtain ⟨k, hk, rfl⟩ := List.mem_map.mp hi
    have hk' : k < x.length := List.mem_range.mp hk
    show x.length - 1 - k < x.length
    omega
def tRv (K : PySem.W.Frag) (te : TE) : TE := fun σ H Q => te σ H fun x H1 => (∃ z, x = .str z ∧ z.length ≤ sizeLine ∧ ∀ y : Str, y.cps.toList = z.cps.toList.reverse → Q (.str y) H1) ∨ (∃ a xs, x = .ref a ∧ SqL K H1 a xs ∧ ∀ p, H1 p = none → Q (.ref p) (upd H1 p (.lst xs.reverse)))
theorem pe_rv {X : Cx} {e : Expr} {te : TE} {k : Nat} {p1 p2 p3 pos : Pos} (he : PE X e te) : PE X (.Subscript e (.Slice none none (some (.UnaryOp .USub (.Constant (.int 1) k p1) p2)) p3) pos) (tRv X.K te) := by
  refine ⟨fun pins s σ H Q I h => ?_⟩
  refine Subscript_ (thn (he.run pins s σ H _ I h) fun v s1 ⟨x, H1, I1, r1, q1⟩ => ?_)
  have hst : PO X (some (.UnaryOp .USub (.Constant (.int 1) k p1) p2)) (tPart (tUn (rU fun i => .int (-i)) (tC (.int 1)))) := po_some (pe_un un_neg pe_int)
  refine wpAny_Slice (thn (po_none.run pins s1 σ H1 (fun o H2 => o = none ∧ H2 = H1) I1 ⟨rfl, rfl⟩) fun vl s2 ⟨l, H2, I2, pl, el, e2⟩ => ?_)
  subst el e2
  refine thn (po_none.run pins s2 σ H2 (fun o H3 => o = none ∧ H3 = H2) I2 ⟨rfl, rfl⟩) fun vu s3 ⟨u, H3, I3, pu, eu, e3⟩ => ?_
  subst eu e3
  refine thn (hst.run pins s3 σ H3 (fun o H4 => o = some (-1) ∧ H4 = H3) I3 ⟨1, rfl, -1, rfl, rfl, rfl⟩) fun vs s4 ⟨o, H4, I4, ps, eo, e4⟩ => ?_
  subst eo e4
  have I5 : Inv X pins σ H4 { s4 with heap := s4.heap.push { cls := .type "slice", data := .fields #[vl, vu, vs] } } := I4.kept (t' := s4.toks) fun b ob q => Heap.get?_push_of_some _ q
  rcases q1 with ⟨z, ex, hz, q⟩ | ⟨a, xs, ex, hx, q⟩
  · subst ex
    obtain ⟨t, rfl⟩ := r1
    cases pl
    cases pu
    cases ps with
    | int i tk =>
    show wpAny (model X.prog X.w) X.A (subscriptTail e (.Slice none none (some (.UnaryOp .USub (.Constant (.int 1) k p1) p2)) p3) (.str z t) (.ref s4.heap.objs.size)) (EP X pins σ Q) X.xe { s4 with heap := s4.heap.push { cls := .type "slice", data := .fields #[.none, .none, .int (-1) tk] } }
    refine tail_any (ops := [.str z t, .ref s4.heap.objs.size]) (typeIs_str _ _ _) (PySem.F.slot_str_getitem.lookup) ?_ (by with_unfolding_all rfl)
    obtain ⟨os, hos, hcs, hds⟩ := Heap.IsSliceOf.new s4.heap .none .none (.int (-1) tk)
    refine wpAny_getItem_str_slice (l := none) (u := none) (st := some (-1, tk)) ⟨os, hos, hcs, hds⟩ rfl ?_
    have hr := rev_pick z
    have hl : ((Builtin.Str.strSliceIndices none none (-1) z.length).filterMap (z.cps[·]?)).toArray.size ≤ sizeLine := by
      rw [← Array.length_toList, hr, List.length_reverse, Array.length_toList]; exact hz
    show Made.post (if ((-1 : Int) == 1 && (Builtin.Str.strSliceIndices none none (-1) z.length).length == z.length) = true then Made.val (.str z t)
      else Made.str ⟨((Builtin.Str.strSliceIndices none none (-1) z.length).filterMap (z.cps[·]?)).toArray⟩) (EP X pins σ Q) _
    rw [if_neg (by rw [show ((-1 : Int) == 1) = false from rfl, Bool.false_and]; exact Bool.false_ne_true)]
    exact ⟨hl, .str _, H4, I5.tok _, ⟨_, rfl⟩, q _ hr⟩
  · subst ex
    cases r1
    obtain ⟨its, r, ht, hz⟩ := I5.list hx
    have hlen := r.length
    show wpAny (model X.prog X.w) X.A (subscriptTail e (.Slice none none (some (.UnaryOp .USub (.Constant (.int 1) k p1) p2)) p3) (.ref a) (.ref s4.heap.objs.size)) (EP X pins σ Q) X.xe { s4 with heap := s4.heap.push { cls := .type "slice", data := .fields #[vl, vu, vs] } }
    refine tail_any (ops := [.ref a, .ref s4.heap.objs.size]) ht.isList.typeIs (PySem.slot_list_getitem.lookup) ?_ (by with_unfolding_all rfl)
    refine wpAny_getItem_list_slice ht.isList (Heap.IsSliceOf.new _ vl vu vs) pl pu ps (by decide) ?_ (by rw [List.size_toArray]; omega)
    rw [PySem.W.krv_pick]
    refine ⟨.ref _, _, I5.laid (t' := s4.toks) (o := .lst xs.reverse) (fun b ob q => Heap.get?_push_of_some _ q) (Nat.le_refl _) ?_, rfl, q _ (I5.hok.fresh (Nat.le_refl _))⟩
    exact ⟨by rw [List.length_reverse]; exact hz, _, 0, r.reverse, Heap.get?_push_size _ rfl⟩
end TI
set_option Elab.async false
set_option linter.all false
set_option maxRecDepth 100000
set_option maxHeartbeats 8000000
namespace TI
open PySem PySem.Spec PyProof.Rows L2

abbrev G0 : G := []
theorem den_int {K : PySem.W.Frag} {r : Addr} {H : Hp} {B : Addr → Prop} {v : V} {i : Int} (h : Den K r H B v (.int i)) : v = .int i := by cases h; rfl
theorem mem_bn {x : Str} (h : bnames.contains x = true) : x ∈ bnames := by simpa using h
theorem Cov.sub {X : Cx} {Z : Spc} {k : Nat} {cs cs' : List (Str × Sem)} {gs gs' : List (Str × D)} (h : Cov X Z k cs gs) (a : ∀ p ∈ cs', p ∈ cs) (b : ∀ p ∈ gs', p ∈ gs) : Cov X Z k cs' gs' := ⟨fun p hp => h.c p (a p hp), fun p hp => h.g p (b p hp)⟩
/-- a block's context -/
theorem XOk.blk {X : Cx} {Z : Spc} {W : WX} {k : Nat} {sc scope : Scope} (O : XOk X Z W k sc) (s : Shared) (H : Hp) (C : Addr) (cl : List (Str × Addr)) (fp : List Addr) :
    XOk (X.blk s H scope (compEnvC scope cl C X.env) fp) Z W0 k (relS scope sc) :=
  ⟨by rw [← O.sc]; rfl, O.nd, O.calm, O.room, takes_none5, O.bn⟩
theorem nonempty_plain {N : List Str} {sc : Scope} {es : Exs} {v : Expr} {vs : List Expr} (h : mEs N sc es (v :: vs) = true) {env : Env} {pos : Pos} :
    starEach (v :: vs) env = (false, eval v env) :: starEach vs env ∧ (backTo pos (starEach vs env)).any (·.1) = false :=
  ⟨star_cons (mEs_plain h v List.mem_cons_self), star_any fun a ha => mEs_plain h a (List.mem_cons_of_mem _ ha)⟩
theorem Cov.blk {X : Cx} {Z : Spc} {k : Nat} {cs : List (Str × Sem)} {gs : List (Str × D)} (h : Cov X Z k cs gs) {s : Shared} {H : Hp} {scope : Scope} {cenv : Env} {fp : List Addr} : Cov (X.blk s H scope cenv fp) Z k cs gs := ⟨fun p hp => h.c p hp, fun p hp => h.g p hp⟩
theorem walk_sub {B B' C : Addr → Prop} {H : Hp} (hB : ∀ a, B' a → B a ∨ false = true) (hC : ∀ a, C a → B' a ∨ H a = none) : ∀ a, C a → B a ∨ H a = none := fun a h => by
  rcases hC a h with h | h
  · rcases hB a h with h | h
    · exact .inl h
    · cases h
  · exact .inr h
theorem rec_ty {K : PySem.W.Frag} {r : Addr} {H : Hp} {B : Addr → Prop} {m : Mt} {d : D} {v : V} (c : recOk m d = true) (n : Den K r H B v d) : tyV K m.T v H := by
  cases n with
  | str s => cases m <;> first | rfl | cases c
  | dK h1 _ _ _ => cases m <;> first | exact .inr (.inr (.inl ⟨rfl, .inl ⟨_, h1⟩⟩)) | cases c
  | dT h1 _ _ _ => cases m <;> first | exact .inr (.inr (.inl ⟨rfl, .inr ⟨_, h1⟩⟩)) | cases c
  | _ => cases m <;> cases c
theorem tg_tup {N : List Str} {sc : Scope} {it : It} {tg : Tg} {t : Expr} (h : okTg it tg = true) (m : mT N sc tg t = true) (z : okTg it (.nm 0) = false) : ∃ es kk pos, t = .Tuple es kk pos := by
  cases tg with
  | nm i =>
    have : okTg it (.nm i) = okTg it (.nm 0) := by cases it <;> rfl
    rw [this, z] at h; cases h
  | tp ts =>
    cases t <;> first | exact ⟨_, _, _, rfl⟩ | simp [mT] at m
theorem mI_fold {N : List Str} {sc : Scope} {it : It} {a : Expr} (h : mI N sc it a = true) {env : Env} : ∀ x, foldedSetIterable a env x = pure x := by
  cases it with
  | of e =>
    unfold mI at h
    exact no_fold (mE_plain h)
  | _ =>
    cases a <;> first | (intro _; rfl) | simp [mI] at h
theorem pa_tys {X : Cx} {Z : Spc} {W : WX} {k : Nat} {sc : Scope} (O : XOk X Z W k sc) : ∀ (ts : List Ty) (es : List Expr), mTys sc ts es = true → PA X es (fun σ H Q => Q (ts.map fun t => .ty t.ty) H) ∧ ∀ a ∈ es, plainE a = true
  | [], [], _ => ⟨pa_mono pa_nil fun _ _ _ h => h, by simp⟩
  | [], _ :: _, h => by simp [mTys] at h
  | _ :: _, [], h => by simp [mTys] at h
  | t :: ts, e :: es, h => by
    cases e with
    | Name x pos =>
      simp only [mTys, Bool.and_eq_true, decide_eq_true_eq] at h
      obtain ⟨rfl, h1, h2⟩ := h
      obtain ⟨g1, g2, g3⟩ := glo_gl O h1
      obtain ⟨i1, i2⟩ := pa_tys O ts es h2
      refine ⟨pa_mono (pa_cons (pe_bltn (v := .ty t.ty) g1 (O.bn _ (ty_bn t)) (ty_boot t) ?_ g3 g2) i1) fun _ _ _ h => h, fun a ha => ?_⟩
      · cases t <;> rfl
      · rcases List.mem_cons.mp ha with rfl | ha
        · rfl
        · exact i2 a ha
    | _ => simp [mTys] at h
theorem kit_all {X : Cc} {Z : Spc} {H : Hp} {B : Addr → Prop} {v : V} {d : D} (h : Den X.K Z.r H B v d) (o : tyOk d = true) : ∃ n, TyX X.K H v (.type n) ∧ ∀ ts : List Ty, PySem.W.kitAny X.K (.type n) (ts.map fun t => .type t.ty) = some (ts.any (isTy d)) := by
  obtain ⟨n, h1, h2⟩ := isi_one h o
  refine ⟨n, h1, fun ts => ?_⟩
  induction ts with
  | nil => exact kitAny_nil
  | cons t ts ih =>
    refine kitAny_cons (kit_ty (h2 t)) (r := (t :: ts).any (isTy d)) (fun e => ?_) fun e => ?_
    · rw [List.any_cons, e, Bool.false_or]; exact ih
    · rw [List.any_cons, e, Bool.true_or]
theorem cls_all : ∀ ts : List Ty, Paired ClsV (ts.map fun t => .ty t.ty) (ts.map fun t => .type t.ty)
  | [] => .nil
  | t :: ts => .cons (.ty _) (cls_all ts)
theorem pw_mono {X : Cx} {e : Expr} {t u : TT} (h : PW X e t) (k : ∀ σ H Q, u σ H Q → t σ H Q) : PW X e u := ⟨fun wh pins s σ H Q I q => h.run wh pins s σ H Q I (k σ H Q q)⟩
theorem pts_mono {X : Cx} {e : List Expr} {t u : TT} (h : PTs X e t) (k : ∀ σ H Q, u σ H Q → t σ H Q) : PTs X e u := ⟨fun pins s σ H Q I q => h.run pins s σ H Q I (k σ H Q q)⟩
theorem pi_mono {X : Cx} {tg e : Expr} {t u : TI} (h : PI X tg e t) (k : ∀ σ H Q, u σ H Q → t σ H Q) : PI X tg e u := ⟨fun pins s σ H Q I q => h.run pins s σ H Q I (k σ H Q q)⟩
theorem mI_rng {N : List Str} {sc : Scope} {es : Exs} {a : Expr} (h : mI N sc (.rng es) a = true) : ∃ py v vs pos, a = .Call (.Name "range" py) (v :: vs) [] pos ∧ mGlo sc "range" = true ∧ vs.length < 3 ∧ mEs N sc es (v :: vs) = true := by
  unfold mI at h
  split at h
  all_goals first
    | exact absurd h Bool.false_ne_true
    | skip
  all_goals rename_i heq
  all_goals cases heq
  simp only [Bool.and_eq_true, decide_eq_true_eq] at h
  obtain ⟨rfl, h1, h2, h3⟩ := h
  exact ⟨_, _, _, _, rfl, h1, h2, h3⟩
theorem mEs_1 {N : List Str} {sc : Scope} {es : Exs} {a : Expr} (h : mEs N sc es [a] = true) : ∃ e, es = .cons e .nil := by
  rcases es with _ | ⟨e, _ | ⟨e2, es⟩⟩ <;> first | exact ⟨_, rfl⟩ | simp [mEs] at h
theorem mEs_2 {N : List Str} {sc : Scope} {es : Exs} {a b : Expr} (h : mEs N sc es [a, b] = true) : ∃ e e2, es = .cons e (.cons e2 .nil) := by
  rcases es with _ | ⟨e, _ | ⟨e2, _ | ⟨e3, es⟩⟩⟩ <;> first | exact ⟨_, _, rfl⟩ | simp [mEs] at h
theorem mEs_3 {N : List Str} {sc : Scope} {es : Exs} {a b c : Expr} (h : mEs N sc es [a, b, c] = true) : ∃ e e2 e3, es = .cons e (.cons e2 (.cons e3 .nil)) := by
  rcases es with _ | ⟨e, _ | ⟨e2, _ | ⟨e3, _ | ⟨e4, es⟩⟩⟩⟩ <;> first | exact ⟨_, _, _, rfl⟩ | simp [mEs] at h
theorem rng_ok1 {d : D} {g g' : G} {rs : List D} (h : rngOf [d] g = .ok rs g') : ∃ j, d = .int j ∧ smallB j = true ∧ rs = rngD 0 1 j.toNat := by
  cases d with
  | int j =>
    obtain ⟨c, e⟩ := grd_ok (show grd (smallB j) (pure (rngD 0 1 j.toNat)) g = _ from h)
    obtain ⟨rfl, _⟩ := pure_ok e
    exact ⟨_, rfl, c, rfl⟩
  | _ => exact (stk_ok (g := G0) h).elim
theorem rng_ok2 {d e : D} {g g' : G} {rs : List D} (h : rngOf [d, e] g = .ok rs g') : ∃ i j, d = .int i ∧ e = .int j ∧ (smallB i = true ∧ smallB j = true) ∧ rs = rngD i 1 (j - i).toNat := by
  cases d with
  | int i =>
    cases e with
    | int j =>
      obtain ⟨c, e⟩ := grd_ok (show grd (smallB i && smallB j) (pure (rngD i 1 (j - i).toNat)) g = _ from h)
      obtain ⟨rfl, _⟩ := pure_ok e
      exact ⟨_, _, rfl, rfl, Bool.and_eq_true_iff.mp c, rfl⟩
    | _ => exact (stk_ok (g := G0) h).elim
  | _ => exact (stk_ok (g := G0) h).elim
theorem rng_ok3 {d e f : D} {g g' : G} {rs : List D} (h : rngOf [d, e, f] g = .ok rs g') : ∃ i j, d = .int i ∧ e = .int j ∧ f = .int (-1) ∧ smallB i = true ∧ smallB j = true ∧ rs = rngD i (-1) (i - j).toNat := by
  cases d with
  | int i =>
    cases e with
    | int j =>
      cases f with
      | int c =>
        obtain ⟨c, e⟩ := grd_ok (show grd (smallB i && smallB j && (c == -1)) (pure (rngD i c (i - j).toNat)) g = _ from h)
        obtain ⟨rfl, _⟩ := pure_ok e
        simp only [Bool.and_eq_true, beq_iff_eq] at c
        obtain ⟨⟨c1, c2⟩, rfl⟩ := c
        exact ⟨_, _, rfl, rfl, rfl, c1, c2, rfl⟩
      | _ => exact (stk_ok (g := G0) h).elim
    | _ => exact (stk_ok (g := G0) h).elim
  | _ => exact (stk_ok (g := G0) h).elim
theorem star_cons2 {a b : Expr} {env : Env} (h : plainE a = true) (h2 : plainE b = true) : starEach [a, b] env = [(false, eval a env), (false, eval b env)] := by
  rw [star_cons h, star_cons h2]; rfl
section
variable {Z : Spc} {H : Hp} {α : Type} {ok : α → G → Hp → Prop} {er : Er → G → Hp → Prop} {ρ : List Sl} {g : G} {f : List D → M α}
theorem evs_ok1 {e1 : Ex} {g' : G} {ds : List D} (h : evs (.cons e1 .nil) ρ g = .ok ds g') : ∃ d, ds = [d] := by
  simp only [evs] at h
  obtain ⟨d, g1, _, h⟩ := bind_ok h
  obtain ⟨ds', g2, h1, h⟩ := bind_ok h
  obtain ⟨rfl, _⟩ := pure_ok h1
  obtain ⟨rfl, _⟩ := pure_ok h
  exact ⟨_, rfl⟩
theorem evs_ok2 {e1 e2 : Ex} {g' : G} {ds : List D} (h : evs (.cons e1 (.cons e2 .nil)) ρ g = .ok ds g') : ∃ d d2, ds = [d, d2] := by
  rw [evs] at h
  obtain ⟨d, g1, _, h⟩ := bind_ok h
  obtain ⟨ds', g2, h1, h⟩ := bind_ok h
  obtain ⟨d2, rfl⟩ := evs_ok1 h1
  obtain ⟨rfl, _⟩ := pure_ok h
  exact ⟨_, _, rfl⟩
theorem evs_ok3 {e1 e2 e3 : Ex} {g' : G} {ds : List D} (h : evs (.cons e1 (.cons e2 (.cons e3 .nil))) ρ g = .ok ds g') : ∃ d d2 d3, ds = [d, d2, d3] := by
  rw [evs] at h
  obtain ⟨d, g1, _, h⟩ := bind_ok h
  obtain ⟨ds', g2, h1, h⟩ := bind_ok h
  obtain ⟨d2, d3, rfl⟩ := evs_ok2 h1
  obtain ⟨rfl, _⟩ := pure_ok h
  exact ⟨_, _, _, rfl⟩
theorem wr_evsP {es : Exs} {P : List D → Prop} (k : ∀ ds g', evs es ρ g = .ok ds g' → P ds) (h : Wr Z H ok er ((evs es ρ >>= f) g)) : Wr Z H (fun ds g1 H1 => Wr Z H1 ok er (f ds g1) ∧ P ds) er (evs es ρ g) := by
  have := Wr.bind h
  cases e : evs es ρ g with
  | ok ds g' => rw [e] at this; exact fun H' f a => ⟨this H' f a, k ds g' e⟩
  | err x g' => rw [e] at this; exact this
  | stuck => rw [e] at this; exact this
theorem wr_evs1 {e1 : Ex} (h : Wr Z H ok er ((evs (.cons e1 .nil) ρ >>= f) g)) : Wr Z H (fun ds g1 H1 => Wr Z H1 ok er (f ds g1) ∧ ∃ d, ds = [d]) er (evs (.cons e1 .nil) ρ g) := wr_evsP (fun _ _ e => evs_ok1 e) h
theorem wr_evs2 {e1 e2 : Ex} (h : Wr Z H ok er ((evs (.cons e1 (.cons e2 .nil)) ρ >>= f) g)) : Wr Z H (fun ds g1 H1 => Wr Z H1 ok er (f ds g1) ∧ ∃ d d2, ds = [d, d2]) er (evs (.cons e1 (.cons e2 .nil)) ρ g) := wr_evsP (fun _ _ e => evs_ok2 e) h
theorem wr_evs3 {e1 e2 e3 : Ex} (h : Wr Z H ok er ((evs (.cons e1 (.cons e2 (.cons e3 .nil))) ρ >>= f) g)) : Wr Z H (fun ds g1 H1 => Wr Z H1 ok er (f ds g1) ∧ ∃ d d2 d3, ds = [d, d2, d3]) er (evs (.cons e1 (.cons e2 (.cons e3 .nil))) ρ g) := wr_evsP (fun _ _ e => evs_ok3 e) h
end
theorem mI_enu {N : List Str} {sc : Scope} {e : Ex} {a : Expr} (h : mI N sc (.enu e) a = true) : ∃ py v pos, a = .Call (.Name "enumerate" py) [v] [] pos ∧ mGlo sc "enumerate" = true ∧ mE N sc e v = true := by
  unfold mI at h
  split at h
  all_goals first
    | exact absurd h Bool.false_ne_true
    | skip
  all_goals rename_i heq
  all_goals cases heq
  simp only [Bool.and_eq_true, decide_eq_true_eq] at h
  obtain ⟨rfl, h1, h2⟩ := h
  exact ⟨_, _, _, rfl, h1, h2⟩
theorem mI_rev {N : List Str} {sc : Scope} {e : Ex} {a : Expr} (h : mI N sc (.rev e) a = true) : ∃ py v pos, a = .Call (.Name "reversed" py) [v] [] pos ∧ mGlo sc "reversed" = true ∧ mE N sc e v = true := by
  unfold mI at h
  split at h
  all_goals first
    | exact absurd h Bool.false_ne_true
    | skip
  all_goals rename_i heq
  all_goals cases heq
  simp only [Bool.and_eq_true, decide_eq_true_eq] at h
  obtain ⟨rfl, h1, h2⟩ := h
  exact ⟨_, _, _, rfl, h1, h2⟩
theorem mI_zip {N : List Str} {sc : Scope} {b c : Ex} {a : Expr} (h : mI N sc (.zip b c) a = true) : ∃ py v w pos, a = .Call (.Name "zip" py) [v, w] [] pos ∧ mGlo sc "zip" = true ∧ mE N sc b v = true ∧ mE N sc c w = true := by
  unfold mI at h
  split at h
  all_goals first
    | exact absurd h Bool.false_ne_true
    | skip
  all_goals rename_i heq
  all_goals cases heq
  simp only [Bool.and_eq_true, decide_eq_true_eq] at h
  obtain ⟨rfl, h1, h2, h3⟩ := h
  exact ⟨_, _, _, _, rfl, h1, h2, h3⟩
theorem po_part {te : TE} {X : Cx} {e : Expr} (h : PE X e te) : PO X (some e) (tPart te) := po_some h
def mIsiF (N : List Str) (sc : Scope) (a : Ex) (ts : List Ty) (q : Expr) : Bool := match q with
  | .Call (.Name y _) [v, .Tuple vs _ _] [] _ => decide (y = ("isinstance" : Str)) && (mGlo sc y && (mE N sc a v && mTys sc ts vs))
  | _ => false
theorem mE_isiF {N : List Str} {sc : Scope} {a : Ex} {ts : List Ty} {q : Expr} : mE N sc (.isi a ts false) q = (plainE q && mIsiF N sc a ts q) := by
  rcases ts with _ | ⟨_, _ | _⟩ <;> (unfold mE; rfl)
/-- [x for x in d], d a dict -/
theorem keyl_red {X : Cc} {Z : Spc} {W : WX} {i x : Nat} {N : List Str} {sc' : Scope} {y2 : Str} {p2 : Pos} {σ : L2.St} {H : Hp} {Q : VK} (hN : N.length = X.n) (hm : mT N sc' (.nm x) (.Name y2 p2) = true)
    (h : tM X Z W (Ex.keyl i x).vs 1 (ev (.keyl i x)) σ H Q) : tLockE (tLc (iKeys (tVar i)) (gT X.K (.nm x)) tYes (tVar x) ([(y2, x)].map (·.2))) σ H Q := by
  obtain ⟨B, ρ, g, p, w⟩ := h
  unfold ev at w
  cases e : vget ρ i with
  | none => rw [e] at w; exact w.elim
  | some d =>
    rw [e] at w
    cases d with
    | dK ks vs =>
      obtain ⟨v, s1, n⟩ := p.sl i (by simp [Ex.vs]) _ e
      obtain ⟨cl, w⟩ := Wr.grd (show Wr Z H (okD X Z B H 1 Q) (erW X Z B W σ) ((grd (decide (ks.length ≤ line)) (pure (.lst (ks.map Ky.d))) : M D) g) from w)
      have cl := of_decide_eq_true cl
      rw [line_eq] at cl
      cases n with
      | @dK a kvs _ _ h1 nb h2 h3 =>
        have hx : x < σ.length := by
          simp only [mT, Bool.and_eq_true, decide_eq_true_eq] at hm
          rw [p.len, ← hN]
          exact (List.getElem?_eq_some_iff.mp hm.1).1
        refine ⟨a, .dK kvs, h1, trivial, fun od => ⟨_, s1, a, od, rfl, .inl ⟨kvs, upd_same, ?_⟩⟩⟩
        intro D nD
        have nDa : D ≠ a := fun z => by rw [z, upd_same] at nD; cases nD
        have nD0 : H D = none := by rw [upd_ne nDa] at nD; exact nD
        have hz : kvs.length ≤ sizeLine := by
          have := congrArg List.length h2
          rw [List.length_map, List.length_map] at this
          omega
        let Hf : Nat → Hp := fun j => upd (upd H a (.frz od (.dK kvs))) D (.lst ((kvs.take j).map fun q => kV q.1))
        have wk : Walk (Itk a od kvs) kvs.length (fun Hi => Hi a = some (.frz od (.dK kvs))) (fun j Hi y H' => H' = Hi ∧ ∃ k v, kvs[j]? = some (k, v) ∧ y = kV k) := ⟨fun j Hi hj e => ⟨e, hj⟩, fun Hi e => ⟨e, Nat.le_refl _⟩, fun j Hi y H' hj e yy => yy⟩
        refine lc_it wk (fun j Hi => Hi = Hf j) rfl ?_ ?_ ?_
        · rintro j Hi _ rfl
          show upd (upd H a _) D _ a = _
          rw [upd_ne (Ne.symm nDa), upd_same]
        · rintro j y Hi H' hj rfl ⟨rfl, k, v, hk, rfl⟩
          show (fun σ2 H2 => _) _ _
          refine ⟨by show wipe ((wipe σ [x]).set x _) [x] = wipe σ [x]; simp [wipe], ?_⟩
          refine ⟨kV k, by show ((wipe σ [x]).set x (some (kV k)))[x]? = _; rw [List.getElem?_set_self (by rw [wipe_length]; exact hx)], _, upd_same, ?_, ?_⟩
          · rw [List.length_map, List.length_take]
            omega
          · show upd (Hf j) D _ = Hf (j + 1)
            have e2 : (kvs.take (j + 1)).map (fun q => kV q.1) = (kvs.take j).map (fun q => kV q.1) ++ [kV k] := by
              rw [List.take_add_one, hk, List.map_append]; rfl
            show upd (upd _ D _) D _ = upd _ D _
            rw [upd_upd, e2]
        · rintro Hn rfl
          refine ⟨by show upd (upd H a _) D _ a = _; rw [upd_ne (Ne.symm nDa), upd_same], ?_⟩
          have eH : upd (Hf kvs.length) a (.dK kvs) = upd H D (.lst ((ks.map Ky.k).map kV)) := by
            funext b
            by_cases b1 : b = a
            · subst b1
              rw [upd_same, upd_ne (Ne.symm nDa), h1]
            · rw [upd_ne b1]
              show upd (upd H a _) D _ b = _
              by_cases b2 : b = D
              · subst b2
                rw [upd_same, upd_same, List.take_length, ← h2, List.map_map]; rfl
              · rw [upd_ne b2, upd_ne b1, upd_ne b2]
          rw [eH]
          have w2 := w.from (sameFr (same_upd (o := .lst ((ks.map Ky.k).map kV)) nD0))
          exact Wr.pure w2 (at_same Z p.at' (same_upd nD0)) _ (den_newL p.bok nD0 den_keys) (fsh1 nD0)
    | _ => exact w.elim
/-- max(l, default=d), ints -/
def rMxd (K : PySem.W.Frag) : List V → List V → Hp → VK → Prop := fun xs zs H Q => ∃ (a : Addr) (ns : List Int) (d : Int), xs = [.ref a] ∧ zs = [.int d] ∧ SqL K H a (ns.map V.int) ∧ match ns with
  | [] => Q (.int d) H
  | n :: ns => Q (.int (maxI n ns)) H
theorem maxOf_ints : ∀ (n : Int) (ns : List Int), PySem.W.maxOf n ns = maxI n ns := by
  intro n ns
  induction ns generalizing n with
  | nil => rfl
  | cons m ns ih =>
    show (m :: ns).foldl _ n = maxI (if n < m then m else n) ns
    rw [← ih]
    show ns.foldl _ _ = ns.foldl _ _
    congr 1
    show (if decide (n < m) = true then m else n) = _
    simp
theorem call_mxd {X : Cx} {Z : Spc} (hc : X.calm = true) (hu : X.A.units + 200 < cLine) : CallRK X (.builtin "max") ["default"] (rMxd X.K) := by
  intro pins s σ H xs zs us ws Q I rs rz h
  obtain ⟨a, ns, d, rfl, rfl, hq, q⟩ := h
  obtain rfl := Vals.ref1 rs
  obtain ⟨u, rfl, ru⟩ := vals1 rz
  obtain ⟨t, rfl⟩ := ru
  obtain ⟨its, rv, p', hz⟩ := I.list hq
  refine PySem.W.max_list_datum_default (α := Int) (xs := ns) (I.ok.hd hc) p'.isList (PySem.W.HoldAll.of_ints rv.ints) (by show X.A.units + 1 + 0 < cLine; omega) (fun e h' tk hk => ?_) fun y ys i v h' tk e hi hv hk => ?_
  · subst e
    exact ⟨.int d, H, I.kept (t' := tk) hk, ⟨t, rfl⟩, q⟩
  · subst e
    obtain ⟨t', rfl⟩ := PySem.W.int_of_holds hv
    rw [maxOf_ints] at hv ⊢
    exact ⟨.int (maxI y ys), H, I.kept (t' := tk) hk, ⟨_, rfl⟩, q⟩
def tstE : Ex → Bool
  | .nt _ | .and _ | .or _ | .ite _ _ _ | .cmp _ _ _ | .cmp2 _ _ _ _ _ | .cmp3 _ _ _ _ _ _ _ => true
  | _ => false
theorem mE_dfl {N : List Str} {sc : Scope} {e : Ex} {a : Expr} (h : mE N sc e a = true) (t : tstE e = false) (env : Env) : ∀ whole, isTrue a env whole = (do let v ← whole; standAt a.pos; holding [v] (truthy v)) := by
  cases e
  all_goals first
    | (exact absurd (show true = false from t) (by decide))
    | skip
  case isi x ts o =>
    cases o with
    | false =>
      rw [mE_isiF] at h
      replace h := (Bool.and_eq_true_iff.mp h).2
      unfold mIsiF at h
      split at h <;> first | (intro _; rfl) | exact absurd h Bool.false_ne_true
    | true =>
      rcases ts with _ | ⟨t1, _ | _⟩
      all_goals unfold mE at h
      · exact absurd h Bool.false_ne_true
      · replace h := (Bool.and_eq_true_iff.mp h).2
        split at h <;> first | (intro _; rfl) | exact absurd h Bool.false_ne_true
      · exact absurd h Bool.false_ne_true
  all_goals unfold mE at h
  all_goals replace h := (Bool.and_eq_true_iff.mp h).2
  all_goals (split at h <;> first | (intro _; rfl) | exact absurd h Bool.false_ne_true)
section
variable {X : Cx} {Z : Spc} {W : WX}
theorem pt_dfl {e : Ex} {a : Expr} (h : PE X a (tM (cc X) Z W e.vs e.fresh (ev e))) (he : ∀ env whole, isTrue a env whole = (do let v ← whole; standAt a.pos; holding [v] (truthy v))) : PT X a (tMB (cc X) Z W e.vs (fun ρ => ev e ρ >>= asB)) :=
  pt_mono (pt_val h (he _)) fun σ H Q ⟨B, ρ, g, p, w⟩ => ⟨B, ρ, g, p, (Wr.bind w).mono fun d g1 H1 f1 a1 w1 v n _ => by
    obtain ⟨b, e, kk⟩ := Wr.ofPr (pr_asB _) w1 a1
    cases asB_ok e
    cases n
    exact ⟨b, rfl, kk H1 .refl a1⟩⟩
end
section
variable {Z : Spc} {k : Nat}
mutual
theorem ex_pe : ∀ (e : Ex) (X : Cx) (W : WX) (sc : Scope) (a : Expr), XOk X Z W k sc → Cov X Z k e.calls e.globs → mE X.N sc e a = true → PE X a (tM (cc X) Z W e.vs e.fresh (ev e))
  | .var i, X, W, sc, q, O, cv, h => by
    unfold mE at h
    replace h := (Bool.and_eq_true_iff.mp h).2
    split at h
    · rename_i x pos
      obtain ⟨h1, h2, h3, h4⟩ := name_vis h
      refine pe_mono (pe_var h1 (by rw [O.sc]; exact h2) h3 h4) fun σ H Q ⟨B, ρ, g, p, w⟩ => ?_
      unfold ev at w
      obtain ⟨d, e, w⟩ := Wr.opt w p.at'
      obtain ⟨v, h5, h6⟩ := p.sl i (by simp [Ex.vs]) d e
      exact ⟨v, h5, w v h6 fsh0⟩
    · exact absurd h Bool.false_ne_true
  | .con c, X, W, sc, q, O, cv, h => by
    unfold mE at h
    replace h := (Bool.and_eq_true_iff.mp h).2
    split at h
    · rename_i c' kk pos
      have h := of_decide_eq_true h
      subst h
      cases c with
      | none =>
          refine pe_mono pe_non fun σ H Q ⟨B, ρ, g, p, w⟩ => ?_
          unfold ev conD at w
          exact Wr.pure w p.at' _ .non fsh0
      | bool b =>
          refine pe_mono pe_bl fun σ H Q ⟨B, ρ, g, p, w⟩ => ?_
          unfold ev conD at w
          exact Wr.pure w p.at' _ (.bl b) fsh0
      | int i =>
          refine pe_mono pe_int fun σ H Q ⟨B, ρ, g, p, w⟩ => ?_
          unfold ev conD at w
          exact Wr.pure w p.at' _ (.int i) fsh0
      | str x =>
          refine pe_mono pe_str fun σ H Q ⟨B, ρ, g, p, w⟩ => ?_
          unfold ev conD at w
          refine Wr.pure w p.at' _ ?_ fsh0
          have := Den.str (K := X.K) (r := Z.r) (H := H) (B := B) x.cps.toList
          rw [S_of] at this
          exact this
      | _ => exact ⟨fun pins s σ H Q I ⟨B, ρ, g, p, w⟩ => by unfold ev conD at w; exact w.elim⟩
    · exact absurd h Bool.false_ne_true
  | .glo x d, X, W, sc, q, O, cv, h => by
    unfold mE at h
    replace h := (Bool.and_eq_true_iff.mp h).2
    split at h
    · rename_i y pos
      obtain ⟨h1, h2⟩ := Bool.and_eq_true_iff.mp h
      have h1 := of_decide_eq_true h1
      subst h1
      obtain ⟨g1, g2, g3⟩ := glo_gl O h2
      obtain ⟨u, v, e1, e2, e3⟩ := cv.g (x, d) (by simp [Ex.globs])
      refine pe_mono (pe_glob g1 e1 e2 g2) fun σ H Q ⟨B, ρ, g, p, w⟩ => ?_
      unfold ev at w
      exact Wr.pure w p.at' _ (e3 H B) fsh0
    · exact absurd h Bool.false_ne_true
  | .bin o a b, X, W, sc, q, O, cv, h => by
    unfold mE at h
    replace h := (Bool.and_eq_true_iff.mp h).2
    split at h
    · rename_i l o' r pos
      simp only [Bool.and_eq_true, decide_eq_true_eq] at h
      obtain ⟨rfl, h1, h2⟩ := h
      refine pe_mono (pe_op (opr_bin (Z := Z) o) (ex_pe a X W sc l O cv.l h1) (ex_pe b X W sc r O cv.r h2)) fun σ H Q ⟨B, ρ, g, p, w⟩ => ?_
      unfold ev at w
      refine seq2 (vs := []) p w fun d1 d2 g2 v1 v2 H2 p2 f n1 n2 w2 => ?_
      obtain ⟨d, e, kk⟩ := Wr.ofPr (pr_bin _ _ _) w2 p2.at'
      refine ⟨B, d1, d2, d, g2, n1, n2, p2.bok, e, fun v' H' sm n' fr => kk H' (sameFr sm) (at_same Z p2.at' sm) v' n' ⟨fun _ ic => ?_, fun z => absurd (show 2 ≤ 1 from z) (by decide)⟩⟩
      obtain ⟨pp, e1, e2⟩ := fr ic
      exact ⟨pp, e1, new_back f p2.at' e2⟩
    · exact absurd h Bool.false_ne_true
  | .neg a, X, W, sc, q, O, cv, h => by
    unfold mE at h
    replace h := (Bool.and_eq_true_iff.mp h).2
    split at h
    · rename_i x pos
      refine pe_mono (pe_un un_neg (ex_pe a X W sc x O cv h)) fun σ H Q ⟨B, ρ, g, p, w⟩ => ?_
      unfold ev at w
      refine seq1 p w fun d1 g1 v1 H1 p1 f n1 w1 => ?_
      obtain ⟨i, e, kk⟩ := Wr.ofPr (pr_asI _) (Wr.bind w1) p1.at'
      cases asI_ok e
      cases n1
      exact ⟨i, rfl, Wr.pure (kk H1 .refl p1.at') p1.at' _ (.int _) fsh0⟩
    · exact absurd h Bool.false_ne_true
  | .nt a, X, W, sc, q, O, cv, h => by
    unfold mE at h
    replace h := (Bool.and_eq_true_iff.mp h).2
    split at h
    · rename_i x pos
      refine pe_mono (pe_not (ex_pe a X W sc x O cv h)) fun σ H Q ⟨B, ρ, g, p, w⟩ => ?_
      unfold ev at w
      refine seq1 p w fun d1 g1 v1 H1 p1 f n1 w1 => ?_
      obtain ⟨i, e, kk⟩ := Wr.ofPr (pr_asB _) (Wr.bind w1) p1.at'
      cases asB_ok e
      cases n1
      exact ⟨i, rfl, Wr.pure (kk H1 .refl p1.at') p1.at' _ (.bl _) fsh0⟩
    · exact absurd h Bool.false_ne_true
  | .cmp o a b, X, W, sc, q, O, cv, h => by
    unfold mE at h
    replace h := (Bool.and_eq_true_iff.mp h).2
    split at h
    · rename_i l o' r pos
      simp only [Bool.and_eq_true, decide_eq_true_eq] at h
      obtain ⟨rfl, h1, h2⟩ := h
      refine pe_mono (pe_cmpR (opr_cmp (Z := Z) O.u o) (ex_pe a X W sc l O cv.l h1) (ex_pe b X W sc r O cv.r h2) (no_behind (mE_plain h2))) fun σ H Q ⟨B, ρ, g, p, w⟩ => ?_
      unfold ev at w
      refine seq2 (vs := []) p w fun d1 d2 g2 v1 v2 H2 p2 f n1 n2 w2 => ?_
      obtain ⟨b, e, kk⟩ := Wr.ofPr (pr_cmp _ _ _) (Wr.bind w2) p2.at'
      exact ⟨B, d1, d2, b, g2, n1, n2, e, Wr.pure (kk H2 .refl p2.at') p2.at' _ (.bl b) fsh0⟩
    · exact absurd h Bool.false_ne_true
  | .cmp2 o o2 a b c, X, W, sc, q, O, cv, h => by
    unfold mE at h
    replace h := (Bool.and_eq_true_iff.mp h).2
    split at h
    · rename_i l o' p' m r pos
      simp only [Bool.and_eq_true, decide_eq_true_eq] at h
      obtain ⟨rfl, rfl, h1, h2, h3⟩ := h
      refine pe_mono (pe_chain (opr_cmp (Z := Z) O.u o) (opr_cmp (Z := Z) O.u o2) (ex_pe a X W sc l O cv.l h1) (ex_pe b X W sc m O cv.r.l h2) (ex_pe c X W sc r O cv.r.r h3) (no_behind (mE_plain h3))) fun σ H Q ⟨B, ρ, g, p, w⟩ => ?_
      unfold ev at w
      refine ⟨B, ρ, g, p.l, (Wr.bind w).mono fun d1 g1 H1 f1 a1 w1 v1 n1 _ => ?_⟩
      have p1 := p.step f1 a1
      refine ⟨B, ρ, g1, p1.r.l, (Wr.bind w1).mono fun d2 g2 H2 f2 a2 w2 v2 n2 _ => ?_⟩
      have p2 := p1.step f2 a2
      obtain ⟨kb, e, w3⟩ := Wr.ofPr (pr_cmp _ _ _) (Wr.bind w2) p2.at'
      have w3 := w3 H2 .refl p2.at'
      refine ⟨B, d1, d2, kb, g2, p1.den f2 n1, n2, e, kb, rfl, ?_⟩
      cases kb with
      | false =>
        rw [if_neg Bool.false_ne_true] at w3 ⊢
        exact Wr.pure w3 p2.at' _ (.bl false) fsh0
      | true =>
        rw [if_pos rfl] at w3 ⊢
        refine ⟨B, ρ, g2, p2.r.r, (Wr.bind w3).mono fun d3 g3 H3 f3 a3 w4 v3 n3 _ => ?_⟩
        have p3 := p2.step f3 a3
        obtain ⟨b, e, kk⟩ := Wr.ofPr (pr_cmp _ _ _) (Wr.bind w4) p3.at'
        exact ⟨B, d2, d3, b, g3, p2.den f3 n2, n3, e, Wr.pure (kk H3 .refl p3.at') p3.at' _ (.bl b) fsh0⟩
    · exact absurd h Bool.false_ne_true
  | .cmp3 o o2 o3 a b c d, X, W, sc, q, O, cv, h => by
    unfold mE at h
    replace h := (Bool.and_eq_true_iff.mp h).2
    split at h
    · rename_i l o' p' p2' m r t pos
      simp only [Bool.and_eq_true, decide_eq_true_eq] at h
      obtain ⟨rfl, rfl, rfl, h1, h2, h3, h4⟩ := h
      refine pe_mono (pe_chain3 (opr_cmp (Z := Z) O.u o) (opr_cmp (Z := Z) O.u o2) (opr_cmp (Z := Z) O.u o3) (ex_pe a X W sc l O cv.l h1) (ex_pe b X W sc m O cv.r.l h2) (ex_pe c X W sc r O cv.r.r.l h3) (ex_pe d X W sc t O cv.r.r.r h4) (no_behind (mE_plain h4))) fun σ H Q ⟨B, ρ, g, p, w⟩ => ?_
      unfold ev at w
      refine ⟨B, ρ, g, p.l, (Wr.bind w).mono fun d1 g1 H1 f1 a1 w1 v1 n1 _ => ?_⟩
      have p1 := p.step f1 a1
      refine ⟨B, ρ, g1, p1.r.l, (Wr.bind w1).mono fun d2 g2 H2 f2 a2 w2 v2 n2 _ => ?_⟩
      have p2 := p1.step f2 a2
      obtain ⟨kb, e, w3⟩ := Wr.ofPr (pr_cmp _ _ _) (Wr.bind w2) p2.at'
      have w3 := w3 H2 .refl p2.at'
      refine ⟨B, d1, d2, kb, g2, p1.den f2 n1, n2, e, kb, rfl, ?_⟩
      cases kb with
      | false =>
        rw [if_neg Bool.false_ne_true] at w3 ⊢
        exact Wr.pure w3 p2.at' _ (.bl false) fsh0
      | true =>
        rw [if_pos rfl] at w3 ⊢
        refine ⟨B, ρ, g2, p2.r.r.l, (Wr.bind w3).mono fun d3 g3 H3 f3 a3 w4 v3 n3 _ => ?_⟩
        have p3 := p2.step f3 a3
        obtain ⟨kb2, e2, w5⟩ := Wr.ofPr (pr_cmp _ _ _) (Wr.bind w4) p3.at'
        have w5 := w5 H3 .refl p3.at'
        refine ⟨B, d2, d3, kb2, g3, p2.den f3 n2, n3, e2, kb2, rfl, ?_⟩
        cases kb2 with
        | false =>
          rw [if_neg Bool.false_ne_true] at w5 ⊢
          exact Wr.pure w5 p3.at' _ (.bl false) fsh0
        | true =>
          rw [if_pos rfl] at w5 ⊢
          refine ⟨B, ρ, g3, p3.r.r.r, (Wr.bind w5).mono fun d4 g4 H4 f4 a4 w6 v4 n4 _ => ?_⟩
          have p4 := p3.step f4 a4
          obtain ⟨b, e, kk⟩ := Wr.ofPr (pr_cmp _ _ _) (Wr.bind w6) p4.at'
          exact ⟨B, d3, d4, b, g4, p3.den f4 n3, n4, e, Wr.pure (kk H4 .refl p4.at') p4.at' _ (.bl b) fsh0⟩
    · exact absurd h Bool.false_ne_true
  | .and es, X, W, sc, q, O, cv, h => by
    unfold mE at h
    replace h := (Bool.and_eq_true_iff.mp h).2
    split at h
    · rename_i vs pos
      refine pe_mono (exs_and es X W sc vs pos O cv h) fun σ H Q ⟨B, ρ, g, p, w⟩ => ⟨B, ρ, g, p, by unfold ev at w; exact w⟩
    · exact absurd h Bool.false_ne_true
  | .or es, X, W, sc, q, O, cv, h => by
    unfold mE at h
    replace h := (Bool.and_eq_true_iff.mp h).2
    split at h
    · rename_i vs pos
      refine pe_mono (exs_or es X W sc vs pos O cv h) fun σ H Q ⟨B, ρ, g, p, w⟩ => ⟨B, ρ, g, p, by unfold ev at w; exact w⟩
    · exact absurd h Bool.false_ne_true
  | .ite c a b, X, W, sc, q, O, cv, h => by
    unfold mE at h
    replace h := (Bool.and_eq_true_iff.mp h).2
    split at h
    · rename_i c' a' b' pos
      simp only [Bool.and_eq_true] at h
      obtain ⟨h1, h2, h3⟩ := h
      refine pe_mono (pe_ifExp (ex_pt c X W sc c' O cv.l h1) (ex_pe a X W sc a' O cv.r.l h2) (ex_pe b X W sc b' O cv.r.r h3)) fun σ H Q ⟨B, ρ, g, p, w⟩ => ?_
      unfold ev at w
      replace w : Wr Z H (okD (cc X) Z B H 0 Q) (erW (cc X) Z B W σ) (((ev c ρ >>= asB) >>= fun kb => if kb = true then ev a ρ else ev b ρ) g) := by
        rw [bind_assoc]; exact w
      refine ⟨B, ρ, g, p.l, (Wr.bind w).mono fun kb g1 H1 f1 a1 w1 => ?_⟩
      have p1 := p.step f1 a1
      show if kb = true then _ else _
      cases kb with
      | true =>
        rw [if_pos rfl] at w1 ⊢
        exact ⟨B, ρ, g1, p1.r.l, w1.mono fun d g2 H2 _ _ w2 v n _ => w2 v n fsh0⟩
      | false =>
        rw [if_neg Bool.false_ne_true] at w1 ⊢
        exact ⟨B, ρ, g1, p1.r.r, w1.mono fun d g2 H2 _ _ w2 v n _ => w2 v n fsh0⟩
    · exact absurd h Bool.false_ne_true
  | .tup es, X, W, sc, q, O, cv, h => by
    unfold mE at h
    replace h := (Bool.and_eq_true_iff.mp h).2
    split at h
    · rename_i vs kk pos
      refine pe_mono (pe_tup (exs_pa es X W sc vs O cv h)) fun σ H Q ⟨B, ρ, g, p, w⟩ => ?_
      unfold ev at w
      refine ⟨B, ρ, g, p, (Wr.bind w).mono fun ds g1 H1 f1 a1 w1 vs n => ?_⟩
      have p1 := p.step f1 a1
      obtain ⟨c, w1⟩ := Wr.grd w1
      have c := of_decide_eq_true c
      rw [line_eq] at c
      refine ⟨by rw [n.length]; exact c, fun pp np => ?_⟩
      have w2 := (w1.from (sameFr (same_upd (o := .tup vs) np)))
      exact Wr.pure w2 (at_same Z a1 (same_upd np)) _ (den_newT p1.bok np n) fsh0
    · exact absurd h Bool.false_ne_true
  | .lst es, X, W, sc, q, O, cv, h => by
    unfold mE at h
    replace h := (Bool.and_eq_true_iff.mp h).2
    split at h
    · rename_i vs pos
      refine pe_mono (pe_lst (exs_pa es X W sc vs O cv h)) fun σ H Q ⟨B, ρ, g, p, w⟩ => ?_
      unfold ev at w
      refine ⟨B, ρ, g, p, (Wr.bind w).mono fun ds g1 H1 f1 a1 w1 vs n => ?_⟩
      have p1 := p.step f1 a1
      obtain ⟨c, w1⟩ := Wr.grd w1
      have c := of_decide_eq_true c
      rw [line_eq] at c
      refine ⟨by rw [n.length]; exact c, fun pp np => ?_⟩
      have w2 := (w1.from (sameFr (same_upd (o := .lst vs) np)))
      exact Wr.pure w2 (at_same Z a1 (same_upd np)) _ (den_newL p1.bok np n) (fsh1 (new_back f1 a1 np))
    · exact absurd h Bool.false_ne_true
  | .sub a i, X, W, sc, q, O, cv, h => by
    unfold mE at h
    replace h := (Bool.and_eq_true_iff.mp h).2
    split at h
    · rename_i l r pos
      simp only [Bool.and_eq_true] at h
      obtain ⟨h1, h2⟩ := h
      refine pe_mono (pe_ix (ixr_sub (Z := Z) O.u) (ex_pe a X W sc l O cv.l h1) (ex_pe i X W sc r O cv.r h2) (plain_ix (mE_plain h2))) fun σ H Q ⟨B, ρ, g, p, w⟩ => ?_
      unfold ev at w
      refine seq2 (vs := []) p w fun d1 d2 g2 v1 v2 H2 p2 f n1 n2 w2 => ?_
      obtain ⟨d, e, kk⟩ := fin_pr (pr_sub _ _) w2 p2.at' rfl
      exact ⟨B, d1, d2, d, g2, n1, n2, p2.bok, e, kk⟩
    · exact absurd h Bool.false_ne_true
  | .slc a lo hi, X, W, sc, q, O, cv, h => by
    unfold mE at h
    replace h := (Bool.and_eq_true_iff.mp h).2
    split at h
    · rename_i v l u p1 p2
      simp only [Bool.and_eq_true] at h
      obtain ⟨h1, h2, h3⟩ := h
      refine pe_mono (pe_slice (slr_slc (Z := Z)) (ex_pe a X W sc v O cv.l h1) (op_po lo X W sc l O cv.r.l h2) (op_po hi X W sc u O cv.r.r h3)) fun σ H Q ⟨B, ρ, g, p, w⟩ => ?_
      unfold ev at w
      refine ⟨B, ρ, g, p.l, (Wr.bind w).mono fun d1 g1 H1 f1 a1 w1 v1 n1 _ => ?_⟩
      have p1 := p.step f1 a1
      refine ⟨B, ρ, g1, p1.r.l, (Wr.bind w1).mono fun l2 g2 H2 f2 a2 w2 => ?_⟩
      have p2 := p1.step f2 a2
      refine ⟨B, ρ, g2, p2.r.r, (Wr.bind w2).mono fun h3 g3 H3 f3 a3 w3 => ?_⟩
      have p3 := p2.step f3 a3
      obtain ⟨d, e, kk⟩ := fin_pr (pr_slc _ _ _) w3 p3.at' rfl
      exact ⟨B, d1, d, g3, p2.den f3 (p1.den f2 n1), p3.bok, e, kk⟩
    · exact absurd h Bool.false_ne_true
  | .rvs a, X, W, sc, q, O, cv, h => by
    unfold mE at h
    replace h := (Bool.and_eq_true_iff.mp h).2
    split at h
    · rename_i v k p1 p2 p3 pos
      refine pe_mono (pe_rv (ex_pe a X W sc v O cv h)) fun σ H Q ⟨B, ρ, g, p, w⟩ => ?_
      unfold ev at w
      refine ⟨B, ρ, g, p, (Wr.bind w).mono fun d1 g1 H1 f1 a1 w1 v1 n1 _ => ?_⟩
      have p1 := p.step f1 a1
      unfold rvD at w1
      cases n1 with
      | str s =>
        obtain ⟨c, w1⟩ := Wr.grd w1
        have c := of_decide_eq_true c
        rw [line_eq] at c
        refine .inl ⟨S s, rfl, by rw [S_len]; exact c, fun y hy => ?_⟩
        have e : y = S s.reverse := by
          rw [← S_of y, hy]
          simp [S]
        rw [e]
        exact Wr.pure w1 a1 _ (.str _) fsh0
      | lst e1 n1 l1 =>
        exact .inr ⟨_, _, rfl, SqL.of e1, fun p np => Wr.pure (w1.from (sameFr (same_upd np))) (at_same Z a1 (same_upd np)) _ (den_newL p1.bok np l1.rev) fsh0⟩
      | _ => exact w1.elim
    · exact absurd h Bool.false_ne_true
  | .call x f es, X, W, sc, q, O, cv, h => by
    unfold mE at h
    replace h := (Bool.and_eq_true_iff.mp h).2
    split at h
    · rename_i y py v vs pos
      simp only [Bool.and_eq_true, decide_eq_true_eq] at h
      obtain ⟨rfl, h1, h2⟩ := h
      obtain ⟨g1, g2, g3⟩ := glo_gl O h1
      obtain ⟨ad, fd, ps, e1, e2, e3, e4, e5⟩ := (cv.c (x, f) (by simp [Ex.calls])).ex
      obtain ⟨st1, st2⟩ := nonempty_plain h2 (env := X.env) (pos := pos)
      have cv' : Cov X Z k es.calls es.globs := cv.sub (fun p hp => by simp [Ex.calls, hp]) (fun p hp => by simpa [Ex.globs] using hp)
      refine pe_mono (pe_callS e4 O.room g1 e1 e2 e3 (fun σ => passAt O.tk σ) (exs_pa es X W sc (v :: vs) O cv' h2) g2 st1 st2) fun σ H Q ⟨B, ρ, g, p, w⟩ => ?_
      unfold ev at w
      refine ⟨B, ρ, g, p, (Wr.bind w).mono fun ds g1 H1 f1 a1 w1 us n => ?_⟩
      have p1 := p.step f1 a1
      refine ⟨?_, B, ds, g1, p.sub, p1.bok, a1, n, ?_⟩
      · rw [n.length]
        by_cases z : ds.length = ps.length
        · exact z
        · rw [show f ds g1 = .stuck from e5 ds g1 z] at w1; exact w1.elim
      · exact (w1.mono fun d g2 H2 f2 a2 w2 v n => w2 v n fsh0).monoE fun e g2 H2 w2 => w2
    · exact absurd h Bool.false_ne_true
  | .blt b es, X, W, sc, q, O, cv, h => by
    unfold mE at h
    replace h := (Bool.and_eq_true_iff.mp h).2
    split at h
    · rename_i y py v vs pos
      simp only [Bool.and_eq_true, decide_eq_true_eq] at h
      obtain ⟨rfl, h1, h2⟩ := h
      obtain ⟨g1, g2, g3⟩ := glo_gl O h1
      obtain ⟨st1, st2⟩ := nonempty_plain h2 (env := X.env) (pos := pos)
      refine pe_mono (pe_blt (callr_blt (Z := Z) O.calm b) g1 (O.bn _ (blt_bn b)) (exs_pa es X W sc (v :: vs) O cv h2) st1 st2) fun σ H Q ⟨B, ρ, g, p, w⟩ => ?_
      unfold ev at w
      refine ⟨B, ρ, g, p, (Wr.bind w).mono fun ds g1 H1 f1 a1 w1 us n => ?_⟩
      have p1 := p.step f1 a1
      obtain ⟨d, e, kk⟩ := Wr.ofPr (pr_blt _ _) w1 a1
      refine ⟨B, ds, d, g1, n, p1.bok, e, fun v' H' sm n' fr => kk H' (sameFr sm) (at_same Z a1 sm) v' n' ⟨fun z _ => ?_, fun z => ?_⟩⟩
      · have zb : b.fresh = true := by
          cases b <;> first | rfl | exact absurd (show 1 ≤ 0 from z) (by decide)
        obtain ⟨pp, e1, e2⟩ := fr zb
        exact ⟨pp, e1, new_back f1 a1 e2⟩
      · cases b <;> first | exact absurd (show 2 ≤ 0 from z) (by decide) | exact absurd (show 2 ≤ 1 from z) (by decide)
    · exact absurd h Bool.false_ne_true
  | .met m a es, X, W, sc, q, O, cv, h => by
    unfold mE at h
    replace h := (Bool.and_eq_true_iff.mp h).2
    split at h
    · rename_i o nm ap v vs cp
      simp only [Bool.and_eq_true, decide_eq_true_eq] at h
      obtain ⟨rfl, h1, h2, h3, h4⟩ := h
      obtain ⟨st1, st2⟩ := nonempty_plain h2 (env := X.env) (pos := cp)
      have few : ((backTo cp (starEach (v :: vs) X.env)).all (fun x => !x.1) && (backToKw cp (keywordEach [] X.env)).all (fun x => x.1.isSome)
          && decide ((v :: vs).length + ([] : List Keyword).length + (if ([] : List Keyword).isEmpty then 0 else 1) < 30)) = true := by
        rw [star_all fun a ha => mEs_plain h2 a ha]
        have : decide ((v :: vs).length + ([] : List Keyword).length + (if ([] : List Keyword).isEmpty then 0 else 1) < 30) = true := by
          rw [decide_eq_true_eq, List.length_cons]
          show vs.length + 1 + 0 + 0 < 30
          omega
        rw [this]; rfl
      have pa := exs_pa es X W sc (v :: vs) O cv.r h2
      have po := ex_pe a X W sc o O cv.l h1
      have base := attr_base (n := m.name) (env := X.env) (mE_plain h1)
      have hu := O.u
      have fin : ∀ σ H Q, tM (cc X) Z W (Ex.met m a es).vs 0 (ev (.met m a es)) σ H Q → tBM X.K m.T (rVM X.K Z (metD m)) (tM (cc X) Z W a.vs a.fresh (ev a)) (tML (cc X) Z W es.vs (evs es)) σ H Q := fun σ H Q ⟨B, ρ, g, p, w⟩ => by
        unfold ev at w
        refine ⟨B, ρ, g, p.l, (Wr.bind w).mono fun d1 g1 H1 f1 a1 w1 v1 n1 _ => ?_⟩
        have p1 := p.step f1 a1
        obtain ⟨c1, w1⟩ := Wr.grd w1
        refine ⟨?_, B, ρ, g1, p1.r, (Wr.bind w1).mono fun ds g2 H2 f2 a2 w2 us n2 => ?_⟩
        · exact rec_ty c1 n1
        · have p2 := p1.step f2 a2
          obtain ⟨d, e, kk⟩ := fin_pr (pr_met _ _ _) w2 p2.at' rfl
          exact ⟨B, d1, ds, d, g2, p1.den f2 n1, n2, p2.bok, e, kk⟩
      cases m with
      | join => exact pe_mono (pe_bm PySem.F.plainAttrs_str PySem.F.slot_str_join PySem.F.type_str_join (mtr_met (Z := Z) hu .join) po pa base few h3 st1 st2) fin
      | find => exact pe_mono (pe_bm PySem.F.plainAttrs_str PySem.F.slot_str_find PySem.F.type_str_find (mtr_met (Z := Z) hu .find) po pa base few h3 st1 st2) fin
      | get => exact pe_mono (pe_bm PySem.F.plainAttrs_dict PySem.F.slot_dict_get PySem.F.type_dict_get (mtr_met (Z := Z) hu .get) po pa base few h3 st1 st2) fin
    · exact absurd h Bool.false_ne_true
  | .isi a [] true, X, W, sc, q, O, cv, h => by
    unfold mE at h; exact absurd h Bool.false_ne_true
  | .isi a (_ :: _ :: _) true, X, W, sc, q, O, cv, h => by
    unfold mE at h; exact absurd h Bool.false_ne_true
  | .isi a [t] true, X, W, sc, q, O, cv, h => by
    unfold mE at h
    replace h := (Bool.and_eq_true_iff.mp h).2
    split at h
    · rename_i y py v z pz pos
      simp only [Bool.and_eq_true, decide_eq_true_eq] at h
      obtain ⟨rfl, h1, h2, h3⟩ := h
      obtain ⟨g1, g2, g3⟩ := glo_gl O h1
      simp only [mTys, Bool.and_eq_true, decide_eq_true_eq] at h3
      obtain ⟨rfl, h4, _⟩ := h3
      have h5 : mTys sc [t] [.Name t.name pz] = true := by simp [mTys, h4]
      obtain ⟨i1, i2⟩ := pa_tys O [t] _ h5
      refine pe_mono (pe_callB call_isi g1 (O.bn _ (by decide)) PyProof.Rows.boot_isinstance (pa_cons (ex_pe a X W sc v O cv h2) i1 (star_cons (mE_plain h2))) (by decide) (by decide) (star_cons (mE_plain h2)) (star_any i2)) fun σ H Q ⟨B, ρ, g, p, w⟩ => ?_
      unfold ev at w
      refine ⟨B, ρ, g, p, (Wr.bind w).mono fun d g1 H1 f1 a1 w1 v1 n1 _ => ?_⟩
      obtain ⟨c1, w1⟩ := Wr.grd w1
      obtain ⟨n, t1, t2⟩ := isi_one n1 c1
      obtain ⟨_, w1⟩ := Wr.grd w1
      have w2 := Wr.pure w1 a1 _ (.bl _) fsh0
      refine ⟨v1, .ty t.ty, .type n, .type t.ty, _, rfl, .ty _, t1, kit_ty (t2 t), ?_⟩
      simpa using w2
    · exact absurd h Bool.false_ne_true
  | .isi a ts false, X, W, sc, q, O, cv, h => by
    rw [mE_isiF] at h
    replace h := (Bool.and_eq_true_iff.mp h).2
    unfold mIsiF at h
    split at h
    · rename_i y py v vs kk p1 p2
      simp only [Bool.and_eq_true, decide_eq_true_eq] at h
      obtain ⟨rfl, h1, h2, h3⟩ := h
      obtain ⟨g1, g2, g3⟩ := glo_gl O h1
      obtain ⟨i1, i2⟩ := pa_tys O ts vs h3
      refine pe_mono (pe_callB call_isiT g1 (O.bn _ (by decide)) PyProof.Rows.boot_isinstance (pa_cons (ex_pe a X W sc v O cv h2) (pa_cons (pe_tup i1) pa_nil (star_cons rfl)) (star_cons (mE_plain h2))) (by decide) (by decide) (star_cons (mE_plain h2)) (star_any (by simp [plainE]))) fun σ H Q ⟨B, ρ, g, p, w⟩ => ?_
      unfold ev at w
      refine ⟨B, ρ, g, p, (Wr.bind w).mono fun d g1 H1 f1 a1 w1 v1 n1 _ => ?_⟩
      obtain ⟨c1, w1⟩ := Wr.grd w1
      obtain ⟨cl, w1⟩ := Wr.grd w1
      refine ⟨by rw [List.length_map, ← line_eq]; exact of_decide_eq_true cl, fun pp np => ?_⟩
      have n2 := Den.fr (sameFr (same_upd (o := .tup (ts.map fun t => .ty t.ty)) np)) (p.step f1 a1).bok d v1 n1
      obtain ⟨n, t1, t2⟩ := kit_all n2 c1
      have w2 := Wr.pure (w1.from (sameFr (same_upd (o := .tup (ts.map fun t => .ty t.ty)) np))) (at_same Z a1 (same_upd np)) _ (.bl _) fsh0
      exact ⟨v1, pp, _, _, _, _, rfl, upd_same, cls_all ts, t1, t2 ts, w2⟩
    · exact absurd h Bool.false_ne_true
  | .comp tg it c e own, X, W, sc, q, O, cv, h => by
    unfold mE at h
    replace h := (Bool.and_eq_true_iff.mp h).2
    split at h
    · rename_i elt t i ifs z scope pos
      simp only [Bool.and_eq_true, decide_eq_true_eq] at h
      obtain ⟨rfl, hok, h1, h2, h3, h4, h5, h6⟩ := h
      have hw : ∀ i ∈ tg.ws, i ∈ own.map (·.2) := fun i hi => by
        have := List.all_eq_true.mp h4 i hi
        simpa using this
      refine pe_mono (pe_lc O.calm O.nd (it_pi it tg X W sc i t O cv.l h1 hok (tg_tup hok h3)) (by rw [O.sc]; exact blkOk_by h2)
        (fun s H C cl fp => show PG _ t (gT X.K tg) from pg_of (X := X.blk s H scope (compEnvC scope cl C X.env) fp) (sc := scope) O.nd O.calm (fun x e => lookup_relS_keep (sc := X.env.scope) (by decide) e) (fun x e => ⟨lookup_relS_keep (sc := X.env.scope) (by decide) e, by show (scope.names.lookup x == some .cell) = true; rw [e]; rfl⟩) tg t h3)
        (fun s H C cl fp => show PTs _ ifs (tMB (cc X) Z W0 c.vs (evC c)) from op_pts c _ W0 (relS scope sc) ifs (O.blk s H C cl fp) cv.r.l.blk h5)
        (fun s H C cl fp => show PE _ elt (tM (cc X) Z W0 e.vs e.fresh (ev e)) from ex_pe e _ W0 (relS scope sc) elt (O.blk s H C cl fp) cv.r.r.blk h6)
        (mI_fold h1)) fun σ H Q w => ?_
      exact lc_red (N := X.N) (sc' := scope) (tge := t) rfl h3 hw w
    · exact absurd h Bool.false_ne_true
  | .dic t, X, W, sc, q, O, cv, h => by
    unfold mE at h
    replace h := (Bool.and_eq_true_iff.mp h).2
    split at h
    · rename_i pos
      cases t with
      | false =>
        refine pe_mono pe_dnewK fun σ H Q ⟨B, ρ, g, p, w⟩ => ?_
        unfold ev at w
        intro pp np
        have w2 := (w.from (sameFr (same_upd (o := .dK []) np)))
        exact Wr.pure w2 (at_same Z p.at' (same_upd np)) _ (.dK upd_same (not_B p.bok np) rfl .nil) (fsh1 np)
      | true =>
        refine pe_mono pe_dnewT fun σ H Q ⟨B, ρ, g, p, w⟩ => ?_
        unfold ev at w
        intro pp np
        have w2 := (w.from (sameFr (same_upd (o := .dT []) np)))
        exact Wr.pure w2 (at_same Z p.at' (same_upd np)) _ (.dT upd_same (not_B p.bok np) rfl .nil) (fsh1 np)
    · exact absurd h Bool.false_ne_true
  | .ssc tg it c e own, X, W, sc, q, O, cv, h => by
    unfold mE at h
    replace h := (Bool.and_eq_true_iff.mp h).2
    split at h
    · rename_i y py elt t i ifs z scope ps pos
      simp only [Bool.and_eq_true, decide_eq_true_eq] at h
      obtain ⟨rfl, h0, rfl, hok, h1, h2, h3, h4, h5, h6⟩ := h
      obtain ⟨g1, g2, g3⟩ := glo_gl O h0
      have hw : ∀ i ∈ tg.ws, i ∈ own.map (·.2) := fun i hi => by
        have := List.all_eq_true.mp h4 i hi
        simpa using this
      refine pe_mono (pe_callB (call_sx (Z := Z) O.calm) g1 (O.bn _ (by decide)) PyProof.Rows.boot_sorted (pa_cons (pe_sx O.calm O.nd (it_pi it tg X W sc i t O cv.l h1 hok (tg_tup hok h3)) (by rw [O.sc]; exact blkOk_by h2)
        (fun s H C cl fp => show PG _ t (gT X.K tg) from pg_of (X := X.blk s H scope (compEnvC scope cl C X.env) fp) (sc := scope) O.nd O.calm (fun x e => lookup_relS_keep (sc := X.env.scope) (by decide) e) (fun x e => ⟨lookup_relS_keep (sc := X.env.scope) (by decide) e, by show (scope.names.lookup x == some .cell) = true; rw [e]; rfl⟩) tg t h3)
        (fun s H C cl fp => show PTs _ ifs (tMB (cc X) Z W0 c.vs (evC c)) from op_pts c _ W0 (relS scope sc) ifs (O.blk s H C cl fp) cv.r.l.blk h5)
        (fun s H C cl fp => show PE _ elt (tM (cc X) Z W0 e.vs e.fresh (ev e)) from ex_pe e _ W0 (relS scope sc) elt (O.blk s H C cl fp) cv.r.r.blk h6)
        (mI_fold h1)) pa_nil rfl) g3 g2 rfl rfl) fun σ H Q w => ?_
      exact sx_red (N := X.N) (sc' := scope) (tge := t) rfl h3 hw w
    · exact absurd h Bool.false_ne_true
  | .keyl i x, X, W, sc, q, O, cv, h => by
    unfold mE at h
    replace h := (Bool.and_eq_true_iff.mp h).2
    split at h
    · rename_i y py y2 p2 n pn z scope pos
      simp only [Bool.and_eq_true, decide_eq_true_eq] at h
      obtain ⟨rfl, h1, h2, h3, h4⟩ := h
      obtain ⟨n1, n2, n3, n4⟩ := name_vis h1
      obtain ⟨m1, m2, m3, m4⟩ := name_vis h4
      refine pe_mono (pe_lock (pe_lc O.calm O.nd (pi_keys (pe_var n1 (by rw [O.sc]; exact n2) n3 n4)) (by rw [O.sc]; exact blkOk_by h2)
        (fun s H C cl fp => show PG _ (.Name y2 p2) (gT X.K (.nm x)) from pg_of (X := X.blk s H scope (compEnvC scope cl C X.env) fp) (sc := scope) O.nd O.calm (fun x e => lookup_relS_keep (sc := X.env.scope) (by decide) e) (fun x e => ⟨lookup_relS_keep (sc := X.env.scope) (by decide) e, by show (scope.names.lookup x == some .cell) = true; rw [e]; rfl⟩) (.nm x) (.Name y2 p2) h3)
        (fun s H C cl fp => pts_nil)
        (fun s H C cl fp => pe_var (X := X.blk s H scope (compEnvC scope cl C X.env) fp) m1 (by show Vis (relS scope X.env.scope) y; rw [O.sc]; exact m2) m3 m4)
        (fun _ => rfl))) fun σ H Q w => keyl_red (N := X.N) (sc' := scope) (p2 := p2) (y2 := y2) (i := i) rfl h3 w
    · exact absurd h Bool.false_ne_true
  | .mxd a d, X, W, sc, q, O, cv, h => by
    unfold mE at h
    replace h := (Bool.and_eq_true_iff.mp h).2
    split at h
    · rename_i y py v kw k' p1 p2 p3 pos
      simp only [Bool.and_eq_true, decide_eq_true_eq] at h
      obtain ⟨rfl, rfl, rfl, h0, h1⟩ := h
      obtain ⟨g1, g2, g3⟩ := glo_gl O h0
      refine pe_mono (pe_callBK (call_mxd (Z := Z) O.calm O.u) g1 (O.bn _ (by decide)) PyProof.Rows.boot_max (pa_cons (ex_pe a X W sc v O cv h1) pa_nil (star_cons (mE_plain h1))) (pk_cons pe_int pk_nil) g3 g2 (by rw [star_cons (mE_plain h1)]; rfl) (star_any fun z hz => by
        obtain rfl := mem_one' hz
        exact mE_plain h1) rfl rfl rfl) fun σ H Q ⟨B, ρ, g, p, w⟩ => ⟨B, ρ, g, p, ?_⟩
      unfold ev at w
      refine (Wr.bind w).mono fun dd g1 H1 f1 a1 w1 v1 n1 fs => ?_
      clear fs
      cases n1 with
      | @lst aa vs xs e1 nb l1 =>
        cases en : intsOf xs with
        | none =>
          replace w1 : Wr Z H1 (okD (cc X) Z B H 0 Q) (erW (cc X) Z B W σ) ((match intsOf xs with
            | some (n :: ns) => pure (.int (maxI n ns))
            | some [] => pure (.int k')
            | none => M.stk : M D) g1) := w1
          rw [en] at w1; exact w1.elim
        | some ns =>
          replace w1 : Wr Z H1 (okD (cc X) Z B H 0 Q) (erW (cc X) Z B W σ) ((match intsOf xs with
            | some (n :: ns) => pure (.int (maxI n ns))
            | some [] => pure (.int k')
            | none => M.stk : M D) g1) := w1
          rw [en] at w1
          cases ints_of en
          rw [l1.ints] at e1
          refine ⟨aa, ns, k', rfl, rfl, SqL.of e1, ?_⟩
          cases ns with
          | nil => exact Wr.pure w1 a1 _ (.int _) fsh0
          | cons n ns => exact Wr.pure w1 a1 _ (.int _) fsh0
      | _ => exact w1.elim
    · exact absurd h Bool.false_ne_true
theorem ex_pt : ∀ (e : Ex) (X : Cx) (W : WX) (sc : Scope) (a : Expr), XOk X Z W k sc → Cov X Z k e.calls e.globs → mE X.N sc e a = true → PT X a (tMB (cc X) Z W e.vs (fun ρ => ev e ρ >>= asB))
  | .cmp o a b, X, W, sc, q, O, cv, h => by
    unfold mE at h
    replace h := (Bool.and_eq_true_iff.mp h).2
    split at h
    · rename_i l o' r pos
      simp only [Bool.and_eq_true, decide_eq_true_eq] at h
      obtain ⟨rfl, h1, h2⟩ := h
      refine pt_mono (pt_cmpR (opr_cmp (Z := Z) O.u o) (ex_pe a X W sc l O cv.l h1) (ex_pe b X W sc r O cv.r h2) (no_behind (mE_plain h2))) fun σ H Q ⟨B, ρ, g, p, w⟩ => ?_
      replace w := Wr.bind w
      unfold ev at w
      refine seq2 (vs := []) p w fun d1 d2 g2 v1 v2 H2 p2 f n1 n2 w2 => ?_
      obtain ⟨b, e, kk⟩ := Wr.ofPr (pr_cmp _ _ _) (Wr.bind w2) p2.at'
      exact ⟨B, d1, d2, b, g2, n1, n2, e, b, rfl, Wr.pure (Wr.pure (kk H2 .refl p2.at') p2.at') p2.at'⟩
    · exact absurd h Bool.false_ne_true
  | .cmp2 o o2 a b c, X, W, sc, q, O, cv, h => by
    unfold mE at h
    replace h := (Bool.and_eq_true_iff.mp h).2
    split at h
    · rename_i l o' p' m r pos
      simp only [Bool.and_eq_true, decide_eq_true_eq] at h
      obtain ⟨rfl, rfl, h1, h2, h3⟩ := h
      refine pt_mono (pt_chain (opr_cmp (Z := Z) O.u o) (opr_cmp (Z := Z) O.u o2) (ex_pe a X W sc l O cv.l h1) (ex_pe b X W sc m O cv.r.l h2) (ex_pe c X W sc r O cv.r.r h3) (no_behind (mE_plain h3))) fun σ H Q ⟨B, ρ, g, p, w⟩ => ?_
      replace w := Wr.bind w
      unfold ev at w
      refine ⟨B, ρ, g, p.l, (Wr.bind w).mono fun d1 g1 H1 f1 a1 w1 v1 n1 _ => ?_⟩
      have p1 := p.step f1 a1
      refine ⟨B, ρ, g1, p1.r.l, (Wr.bind w1).mono fun d2 g2 H2 f2 a2 w2 v2 n2 _ => ?_⟩
      have p2 := p1.step f2 a2
      obtain ⟨kb, e, w3⟩ := Wr.ofPr (pr_cmp _ _ _) (Wr.bind w2) p2.at'
      have w3 := w3 H2 .refl p2.at'
      refine ⟨B, d1, d2, kb, g2, p1.den f2 n1, n2, e, kb, rfl, ?_⟩
      cases kb with
      | false =>
        rw [if_neg Bool.false_ne_true] at w3 ⊢
        exact ⟨false, rfl, Wr.pure (Wr.pure w3 p2.at') p2.at'⟩
      | true =>
        rw [if_pos rfl] at w3 ⊢
        refine ⟨B, ρ, g2, p2.r.r, (Wr.bind w3).mono fun d3 g3 H3 f3 a3 w4 v3 n3 _ => ?_⟩
        have p3 := p2.step f3 a3
        obtain ⟨b, e, kk⟩ := Wr.ofPr (pr_cmp _ _ _) (Wr.bind w4) p3.at'
        exact ⟨B, d2, d3, b, g3, p2.den f3 n2, n3, e, b, rfl, Wr.pure (Wr.pure (kk H3 .refl p3.at') p3.at') p3.at'⟩
    · exact absurd h Bool.false_ne_true
  | .cmp3 o o2 o3 a b c d, X, W, sc, q, O, cv, h => by
    unfold mE at h
    replace h := (Bool.and_eq_true_iff.mp h).2
    split at h
    · rename_i l o' p' p2' m r t pos
      simp only [Bool.and_eq_true, decide_eq_true_eq] at h
      obtain ⟨rfl, rfl, rfl, h1, h2, h3, h4⟩ := h
      refine pt_mono (pt_chain3 (opr_cmp (Z := Z) O.u o) (opr_cmp (Z := Z) O.u o2) (opr_cmp (Z := Z) O.u o3) (ex_pe a X W sc l O cv.l h1) (ex_pe b X W sc m O cv.r.l h2) (ex_pe c X W sc r O cv.r.r.l h3) (ex_pe d X W sc t O cv.r.r.r h4) (no_behind (mE_plain h4))) fun σ H Q ⟨B, ρ, g, p, w⟩ => ?_
      replace w := Wr.bind w
      unfold ev at w
      refine ⟨B, ρ, g, p.l, (Wr.bind w).mono fun d1 g1 H1 f1 a1 w1 v1 n1 _ => ?_⟩
      have p1 := p.step f1 a1
      refine ⟨B, ρ, g1, p1.r.l, (Wr.bind w1).mono fun d2 g2 H2 f2 a2 w2 v2 n2 _ => ?_⟩
      have p2 := p1.step f2 a2
      obtain ⟨kb, e, w3⟩ := Wr.ofPr (pr_cmp _ _ _) (Wr.bind w2) p2.at'
      have w3 := w3 H2 .refl p2.at'
      refine ⟨B, d1, d2, kb, g2, p1.den f2 n1, n2, e, kb, rfl, ?_⟩
      cases kb with
      | false =>
        rw [if_neg Bool.false_ne_true] at w3 ⊢
        exact ⟨false, rfl, Wr.pure (Wr.pure w3 p2.at') p2.at'⟩
      | true =>
        rw [if_pos rfl] at w3 ⊢
        refine ⟨B, ρ, g2, p2.r.r.l, (Wr.bind w3).mono fun d3 g3 H3 f3 a3 w4 v3 n3 _ => ?_⟩
        have p3 := p2.step f3 a3
        obtain ⟨kb2, e2, w5⟩ := Wr.ofPr (pr_cmp _ _ _) (Wr.bind w4) p3.at'
        have w5 := w5 H3 .refl p3.at'
        refine ⟨B, d2, d3, kb2, g3, p2.den f3 n2, n3, e2, kb2, rfl, ?_⟩
        cases kb2 with
        | false =>
          rw [if_neg Bool.false_ne_true] at w5 ⊢
          exact ⟨false, rfl, Wr.pure (Wr.pure w5 p3.at') p3.at'⟩
        | true =>
          rw [if_pos rfl] at w5 ⊢
          refine ⟨B, ρ, g3, p3.r.r.r, (Wr.bind w5).mono fun d4 g4 H4 f4 a4 w6 v4 n4 _ => ?_⟩
          have p4 := p3.step f4 a4
          obtain ⟨b, e, kk⟩ := Wr.ofPr (pr_cmp _ _ _) (Wr.bind w6) p4.at'
          exact ⟨B, d3, d4, b, g4, p3.den f4 n3, n4, e, b, rfl, Wr.pure (Wr.pure (kk H4 .refl p4.at') p4.at') p4.at'⟩
    · exact absurd h Bool.false_ne_true
  | .nt a, X, W, sc, q, O, cv, h => by
    unfold mE at h
    replace h := (Bool.and_eq_true_iff.mp h).2
    split at h
    · rename_i x pos
      refine pt_mono (pt_not (ex_pt a X W sc x O cv h)) fun σ H Q ⟨B, ρ, g, p, w⟩ => ?_
      have e0 : (ev (.nt a) ρ >>= asB) = ((ev a ρ >>= asB) >>= fun b => pure (!b)) := by
        rw [ev]; simp only [bind_assoc]; rfl
      replace w : Wr Z H (okB Q) (erW (cc X) Z B W σ) ((ev (.nt a) ρ >>= asB) g) := w
      rw [e0] at w
      exact ⟨B, ρ, g, p, (Wr.bind w).mono fun b g1 H1 f1 a1 w1 => Wr.pure (er := erW (cc X) Z B W σ) w1 a1⟩
    · exact absurd h Bool.false_ne_true
  | .and es, X, W, sc, q, O, cv, h => by
    unfold mE at h
    replace h := (Bool.and_eq_true_iff.mp h).2
    split at h
    · rename_i vs pos
      exact pt_mono (exs_andT es X W sc vs pos O cv h).pt fun σ H Q ⟨B, ρ, g, p, w⟩ => ⟨B, ρ, g, p, by unfold ev at w; exact w⟩
    · exact absurd h Bool.false_ne_true
  | .or es, X, W, sc, q, O, cv, h => by
    unfold mE at h
    replace h := (Bool.and_eq_true_iff.mp h).2
    split at h
    · rename_i vs pos
      exact pt_mono (exs_orT es X W sc vs pos O cv h).pt fun σ H Q ⟨B, ρ, g, p, w⟩ => ⟨B, ρ, g, p, by unfold ev at w; exact w⟩
    · exact absurd h Bool.false_ne_true
  | .ite c a b, X, W, sc, q, O, cv, h => by
    unfold mE at h
    replace h := (Bool.and_eq_true_iff.mp h).2
    split at h
    · rename_i c' a' b' pos
      simp only [Bool.and_eq_true] at h
      obtain ⟨h1, h2, h3⟩ := h
      refine pt_mono (pt_ite (ex_pt c X W sc c' O cv.l h1) (ex_pt a X W sc a' O cv.r.l h2) (ex_pt b X W sc b' O cv.r.r h3)) fun σ H Q ⟨B, ρ, g, p, w⟩ => ?_
      have e0 : (ev (.ite c a b) ρ >>= asB) = ((ev c ρ >>= asB) >>= fun kb => (if kb = true then ev a ρ >>= asB else ev b ρ >>= asB)) := by
        rw [ev]; simp only [bind_assoc, ite_bind]
      replace w : Wr Z H (okB Q) (erW (cc X) Z B W σ) ((ev (.ite c a b) ρ >>= asB) g) := w
      rw [e0] at w
      refine ⟨B, ρ, g, p.l, (Wr.bind w).mono fun kb g1 H1 f1 a1 w1 => ?_⟩
      have p1 := p.step f1 a1
      show if kb = true then _ else _
      cases kb with
      | true =>
        rw [if_pos rfl] at w1 ⊢
        exact ⟨B, ρ, g1, p1.r.l, w1⟩
      | false =>
        rw [if_neg Bool.false_ne_true] at w1 ⊢
        exact ⟨B, ρ, g1, p1.r.r, w1⟩
    · exact absurd h Bool.false_ne_true
  | .var i, X, W, sc, q, O, cv, h => pt_dfl (ex_pe _ X W sc q O cv h) (mE_dfl h rfl)
  | .con c, X, W, sc, q, O, cv, h => pt_dfl (ex_pe _ X W sc q O cv h) (mE_dfl h rfl)
  | .glo x d, X, W, sc, q, O, cv, h => pt_dfl (ex_pe _ X W sc q O cv h) (mE_dfl h rfl)
  | .bin o a b, X, W, sc, q, O, cv, h => pt_dfl (ex_pe _ X W sc q O cv h) (mE_dfl h rfl)
  | .neg a, X, W, sc, q, O, cv, h => pt_dfl (ex_pe _ X W sc q O cv h) (mE_dfl h rfl)
  | .tup es, X, W, sc, q, O, cv, h => pt_dfl (ex_pe _ X W sc q O cv h) (mE_dfl h rfl)
  | .lst es, X, W, sc, q, O, cv, h => pt_dfl (ex_pe _ X W sc q O cv h) (mE_dfl h rfl)
  | .sub a i, X, W, sc, q, O, cv, h => pt_dfl (ex_pe _ X W sc q O cv h) (mE_dfl h rfl)
  | .slc a lo hi, X, W, sc, q, O, cv, h => pt_dfl (ex_pe _ X W sc q O cv h) (mE_dfl h rfl)
  | .rvs a, X, W, sc, q, O, cv, h => pt_dfl (ex_pe _ X W sc q O cv h) (mE_dfl h rfl)
  | .call x f es, X, W, sc, q, O, cv, h => pt_dfl (ex_pe _ X W sc q O cv h) (mE_dfl h rfl)
  | .blt b es, X, W, sc, q, O, cv, h => pt_dfl (ex_pe _ X W sc q O cv h) (mE_dfl h rfl)
  | .met m a es, X, W, sc, q, O, cv, h => pt_dfl (ex_pe _ X W sc q O cv h) (mE_dfl h rfl)
  | .isi a ts one, X, W, sc, q, O, cv, h => pt_dfl (ex_pe _ X W sc q O cv h) (mE_dfl h rfl)
  | .comp tg it c e own, X, W, sc, q, O, cv, h => pt_dfl (ex_pe _ X W sc q O cv h) (mE_dfl h rfl)
  | .dic t, X, W, sc, q, O, cv, h => pt_dfl (ex_pe _ X W sc q O cv h) (mE_dfl h rfl)
  | .ssc tg it c e own, X, W, sc, q, O, cv, h => pt_dfl (ex_pe _ X W sc q O cv h) (mE_dfl h rfl)
  | .keyl i x, X, W, sc, q, O, cv, h => pt_dfl (ex_pe _ X W sc q O cv h) (mE_dfl h rfl)
  | .mxd a d, X, W, sc, q, O, cv, h => pt_dfl (ex_pe _ X W sc q O cv h) (mE_dfl h rfl)
theorem exs_pa : ∀ (es : Exs) (X : Cx) (W : WX) (sc : Scope) (as : List Expr), XOk X Z W k sc → Cov X Z k es.calls es.globs → mEs X.N sc es as = true → PA X as (tML (cc X) Z W es.vs (evs es))
  | .nil, X, W, sc, [], O, cv, h => by
    refine pa_mono pa_nil fun σ H Q ⟨B, ρ, g, p, w⟩ => ?_
    unfold evs at w
    exact Wr.pure w p.at' _ .nil
  | .nil, X, W, sc, _ :: _, O, cv, h => by simp [mEs] at h
  | .cons e es, X, W, sc, [], O, cv, h => by simp [mEs] at h
  | .cons e es, X, W, sc, a :: as, O, cv, h => by
    simp only [mEs, Bool.and_eq_true] at h
    refine pa_mono (pa_cons (ex_pe e X W sc a O cv.l h.1) (exs_pa es X W sc as O cv.r h.2) (star_cons (mE_plain h.1))) fun σ H Q ⟨B, ρ, g, p, w⟩ => ?_
    unfold evs at w
    refine ⟨B, ρ, g, p.l, (Wr.bind w).mono fun d1 g1 H1 f1 a1 w1 v1 n1 _ => ?_⟩
    have p1 := p.step f1 a1
    refine ⟨B, ρ, g1, p1.r, (Wr.bind w1).mono fun ds g2 H2 f2 a2 w2 us n2 => ?_⟩
    exact Wr.pure w2 a2 _ (.cons (p1.den f2 n1) n2)
theorem exs_and : ∀ (es : Exs) (X : Cx) (W : WX) (sc : Scope) (as : List Expr) (pos : Pos), XOk X Z W k sc → Cov X Z k es.calls es.globs → mEs X.N sc es as = true → PE X (.BoolOp .And as pos) (tM (cc X) Z W es.vs 0 (evAnd es))
  | .nil, X, W, sc, as, pos, O, cv, h => ⟨fun _ _ _ _ _ _ ⟨B, ρ, g, p, w⟩ => by unfold evAnd at w; exact w.elim⟩
  | .cons e es, X, W, sc, [], pos, O, cv, h => by simp [mEs] at h
  | .cons e .nil, X, W, sc, [a], pos, O, cv, h => by
    simp only [mEs, Bool.and_eq_true] at h
    refine pe_mono (pe_one (ex_pe e X W sc a O cv.l h.1)) fun σ H Q ⟨B, ρ, g, p, w⟩ => ⟨B, ρ, g, p.l, ?_⟩
    unfold evAnd at w
    exact (Wr.bind w).mono fun d g1 H1 f1 a1 w1 v n _ => Wr.pure w1 a1 v n fsh0
  | .cons e .nil, X, W, sc, a :: b :: as, pos, O, cv, h => by simp [mEs] at h
  | .cons e (.cons e2 es), X, W, sc, [a], pos, O, cv, h => by simp [mEs] at h
  | .cons e (.cons e2 es), X, W, sc, a :: b :: as, pos, O, cv, h => by
    rw [mEs, Bool.and_eq_true] at h
    refine pe_mono (pe_and (ex_pe e X W sc a O cv.l h.1) (exs_and (.cons e2 es) X W sc (b :: as) pos O cv.r h.2)) fun σ H Q ⟨B, ρ, g, p, w⟩ => ⟨B, ρ, g, p.l, ?_⟩
    rw [evAnd] at w
    refine (Wr.bind w).mono fun d g1 H1 f1 a1 w1 v n _ => ?_
    have p1 := p.step f1 a1
    obtain ⟨kb, e, kk⟩ := Wr.ofPr (pr_asB _) (Wr.bind w1) a1
    cases asB_ok e
    cases n
    have w2 := kk H1 .refl a1
    refine ⟨kb, rfl, ?_⟩
    cases kb with
    | true =>
      rw [if_pos rfl] at w2 ⊢
      exact ⟨B, ρ, g1, p1.r, w2.mono fun d g2 H2 _ _ w3 v n _ => w3 v n fsh0⟩
    | false =>
      rw [if_neg Bool.false_ne_true] at w2 ⊢
      exact Wr.pure w2 a1 _ (.bl false) fsh0
theorem exs_or : ∀ (es : Exs) (X : Cx) (W : WX) (sc : Scope) (as : List Expr) (pos : Pos), XOk X Z W k sc → Cov X Z k es.calls es.globs → mEs X.N sc es as = true → PE X (.BoolOp .Or as pos) (tM (cc X) Z W es.vs 0 (evOr es))
  | .nil, X, W, sc, as, pos, O, cv, h => ⟨fun _ _ _ _ _ _ ⟨B, ρ, g, p, w⟩ => by unfold evOr at w; exact w.elim⟩
  | .cons e es, X, W, sc, [], pos, O, cv, h => by simp [mEs] at h
  | .cons e .nil, X, W, sc, [a], pos, O, cv, h => by
    simp only [mEs, Bool.and_eq_true] at h
    refine pe_mono (pe_one (ex_pe e X W sc a O cv.l h.1)) fun σ H Q ⟨B, ρ, g, p, w⟩ => ⟨B, ρ, g, p.l, ?_⟩
    unfold evOr at w
    exact (Wr.bind w).mono fun d g1 H1 f1 a1 w1 v n _ => Wr.pure w1 a1 v n fsh0
  | .cons e .nil, X, W, sc, a :: b :: as, pos, O, cv, h => by simp [mEs] at h
  | .cons e (.cons e2 es), X, W, sc, [a], pos, O, cv, h => by simp [mEs] at h
  | .cons e (.cons e2 es), X, W, sc, a :: b :: as, pos, O, cv, h => by
    rw [mEs, Bool.and_eq_true] at h
    refine pe_mono (pe_or (ex_pe e X W sc a O cv.l h.1) (exs_or (.cons e2 es) X W sc (b :: as) pos O cv.r h.2)) fun σ H Q ⟨B, ρ, g, p, w⟩ => ⟨B, ρ, g, p.l, ?_⟩
    rw [evOr] at w
    refine (Wr.bind w).mono fun d g1 H1 f1 a1 w1 v n _ => ?_
    have p1 := p.step f1 a1
    obtain ⟨kb, e, kk⟩ := Wr.ofPr (pr_asB _) (Wr.bind w1) a1
    cases asB_ok e
    cases n
    have w2 := kk H1 .refl a1
    refine ⟨kb, rfl, ?_⟩
    cases kb with
    | true =>
      rw [if_pos rfl] at w2 ⊢
      exact Wr.pure w2 a1 _ (.bl true) fsh0
    | false =>
      rw [if_neg Bool.false_ne_true] at w2 ⊢
      exact ⟨B, ρ, g1, p1.r, w2.mono fun d g2 H2 _ _ w3 v n _ => w3 v n fsh0⟩
theorem exs_andT : ∀ (es : Exs) (X : Cx) (W : WX) (sc : Scope) (as : List Expr) (pos : Pos), XOk X Z W k sc → Cov X Z k es.calls es.globs → mEs X.N sc es as = true → PW X (.BoolOp .And as pos) (tMB (cc X) Z W es.vs (fun ρ => evAnd es ρ >>= asB))
  | .nil, X, W, sc, as, pos, O, cv, h => ⟨fun _ _ _ _ _ _ _ ⟨B, ρ, g, p, w⟩ => by
      replace w := Wr.bind w
      unfold evAnd at w; exact w.elim⟩
  | .cons e es, X, W, sc, [], pos, O, cv, h => by simp [mEs] at h
  | .cons e .nil, X, W, sc, [a], pos, O, cv, h => by
    simp only [mEs, Bool.and_eq_true] at h
    refine pw_mono (pw_and1 (ex_pt e X W sc a O cv.l h.1)) fun σ H Q ⟨B, ρ, g, p, w⟩ => ⟨B, ρ, g, p.l, ?_⟩
    replace w : Wr Z H (okB Q) (erW (cc X) Z B W σ) ((evAnd (.cons e .nil) ρ >>= asB) g) := w
    rw [show evAnd (.cons e .nil) ρ = ev e ρ from by rw [evAnd]; exact bind_pure _] at w
    exact w
  | .cons e .nil, X, W, sc, a :: b :: as, pos, O, cv, h => by simp [mEs] at h
  | .cons e (.cons e2 es), X, W, sc, [a], pos, O, cv, h => by simp [mEs] at h
  | .cons e (.cons e2 es), X, W, sc, a :: b :: as, pos, O, cv, h => by
    rw [mEs, Bool.and_eq_true] at h
    refine pw_mono (pw_and (ex_pt e X W sc a O cv.l h.1) (exs_andT (.cons e2 es) X W sc (b :: as) pos O cv.r h.2)) fun σ H Q ⟨B, ρ, g, p, w⟩ => ⟨B, ρ, g, p.l, ?_⟩
    have e0 : (evAnd (.cons e (.cons e2 es)) ρ >>= asB) = ((ev e ρ >>= asB) >>= fun kb => (if kb = true then evAnd (.cons e2 es) ρ >>= asB else pure false)) := by
      rw [evAnd]; simp only [bind_assoc, ite_bind]; rfl
    replace w : Wr Z H (okB Q) (erW (cc X) Z B W σ) ((evAnd (.cons e (.cons e2 es)) ρ >>= asB) g) := w
    rw [e0] at w
    refine (Wr.bind w).mono fun kb g1 H1 f1 a1 w1 => ?_
    have p1 := p.step f1 a1
    show if kb = true then _ else _
    cases kb with
    | true =>
      rw [if_pos rfl] at w1 ⊢
      exact ⟨B, ρ, g1, p1.r, w1⟩
    | false =>
      rw [if_neg Bool.false_ne_true] at w1 ⊢
      exact Wr.pure w1 a1
theorem exs_orT : ∀ (es : Exs) (X : Cx) (W : WX) (sc : Scope) (as : List Expr) (pos : Pos), XOk X Z W k sc → Cov X Z k es.calls es.globs → mEs X.N sc es as = true → PW X (.BoolOp .Or as pos) (tMB (cc X) Z W es.vs (fun ρ => evOr es ρ >>= asB))
  | .nil, X, W, sc, as, pos, O, cv, h => ⟨fun _ _ _ _ _ _ _ ⟨B, ρ, g, p, w⟩ => by
      replace w := Wr.bind w
      unfold evOr at w; exact w.elim⟩
  | .cons e es, X, W, sc, [], pos, O, cv, h => by simp [mEs] at h
  | .cons e .nil, X, W, sc, [a], pos, O, cv, h => by
    simp only [mEs, Bool.and_eq_true] at h
    refine pw_mono (pw_or1 (ex_pt e X W sc a O cv.l h.1)) fun σ H Q ⟨B, ρ, g, p, w⟩ => ⟨B, ρ, g, p.l, ?_⟩
    replace w : Wr Z H (okB Q) (erW (cc X) Z B W σ) ((evOr (.cons e .nil) ρ >>= asB) g) := w
    rw [show evOr (.cons e .nil) ρ = ev e ρ from by rw [evOr]; exact bind_pure _] at w
    exact w
  | .cons e .nil, X, W, sc, a :: b :: as, pos, O, cv, h => by simp [mEs] at h
  | .cons e (.cons e2 es), X, W, sc, [a], pos, O, cv, h => by simp [mEs] at h
  | .cons e (.cons e2 es), X, W, sc, a :: b :: as, pos, O, cv, h => by
    rw [mEs, Bool.and_eq_true] at h
    refine pw_mono (pw_or (ex_pt e X W sc a O cv.l h.1) (exs_orT (.cons e2 es) X W sc (b :: as) pos O cv.r h.2)) fun σ H Q ⟨B, ρ, g, p, w⟩ => ⟨B, ρ, g, p.l, ?_⟩
    have e0 : (evOr (.cons e (.cons e2 es)) ρ >>= asB) = ((ev e ρ >>= asB) >>= fun kb => (if kb = true then pure true else evOr (.cons e2 es) ρ >>= asB)) := by
      rw [evOr]; simp only [bind_assoc, ite_bind]; rfl
    replace w : Wr Z H (okB Q) (erW (cc X) Z B W σ) ((evOr (.cons e (.cons e2 es)) ρ >>= asB) g) := w
    rw [e0] at w
    refine (Wr.bind w).mono fun kb g1 H1 f1 a1 w1 => ?_
    have p1 := p.step f1 a1
    show if kb = true then _ else _
    cases kb with
    | true =>
      rw [if_pos rfl] at w1 ⊢
      exact Wr.pure w1 a1
    | false =>
      rw [if_neg Bool.false_ne_true] at w1 ⊢
      exact ⟨B, ρ, g1, p1.r, w1⟩
theorem op_po : ∀ (o : Op) (X : Cx) (W : WX) (sc : Scope) (a : Option Expr), XOk X Z W k sc → Cov X Z k o.calls o.globs → mO X.N sc o a = true → PO X a (tMO (cc X) Z W o.vs (evOp o))
  | .no, X, W, sc, none, O, cv, h => po_mono po_none fun σ H Q ⟨B, ρ, g, p, w⟩ => by
      unfold evOp at w; exact Wr.pure w p.at'
  | .no, X, W, sc, some _, O, cv, h => by simp [mO] at h
  | .so e, X, W, sc, none, O, cv, h => by simp [mO] at h
  | .so e, X, W, sc, some a, O, cv, h => by
    rw [mO] at h
    refine po_mono (po_some (ex_pe e X W sc a O cv h)) fun σ H Q ⟨B, ρ, g, p, w⟩ => ⟨B, ρ, g, p, ?_⟩
    unfold evOp at w
    refine (Wr.bind w).mono fun d g1 H1 f1 a1 w1 v n _ => ?_
    obtain ⟨i, e, kk⟩ := Wr.ofPr (pr_asI _) (Wr.bind w1) a1
    cases asI_ok e
    cases n
    exact ⟨i, rfl, Wr.pure (kk H1 .refl a1) a1⟩
theorem op_pts : ∀ (o : Op) (X : Cx) (W : WX) (sc : Scope) (a : List Expr), XOk X Z W k sc → Cov X Z k o.calls o.globs → mC X.N sc o a = true → PTs X a (tMB (cc X) Z W o.vs (evC o))
  | .no, X, W, sc, [], O, cv, h => pts_mono pts_nil fun σ H Q ⟨B, ρ, g, p, w⟩ => by
      unfold evC at w; exact Wr.pure w p.at'
  | .no, X, W, sc, _ :: _, O, cv, h => by simp [mC] at h
  | .so e, X, W, sc, [], O, cv, h => by simp [mC] at h
  | .so e, X, W, sc, _ :: _ :: _, O, cv, h => by simp [mC] at h
  | .so e, X, W, sc, [a], O, cv, h => by
    rw [mC] at h
    refine pts_mono (pts_one (ex_pt e X W sc a O cv h)) fun σ H Q ⟨B, ρ, g, p, w⟩ => ⟨B, ρ, g, p, ?_⟩
    unfold evC at w
    exact w
theorem it_pi : ∀ (it : It) (tg : Tg) (X : Cx) (W : WX) (sc : Scope) (a t : Expr), XOk X Z W k sc → Cov X Z k it.calls it.globs → mI X.N sc it a = true → okTg it tg = true → (okTg it (.nm 0) = false → ∃ es kk pos, t = .Tuple es kk pos) → PI X t a (tI (cc X) Z W it.isR it.vs (evIt it))
  | .of e, tg, X, W, sc, a, t, O, cv, h, _, _ => by
    unfold mI at h
    refine pi_mono (pi_any (ex_pe e X W sc a O cv h)) fun σ H R ⟨B, ρ, g, p, w⟩ => ⟨B, ρ, g, p, ?_⟩
    unfold evIt at w
    refine (Wr.bind w).mono fun d g1 H1 f1 a1 w1 v n _ => ?_
    have p1 := p.step f1 a1
    obtain ⟨ds, e, kk⟩ := Wr.ofPr (pr_items _) w1 a1
    have q := kk H1 .refl a1
    cases n with
    | lst h1 h2 h3 =>
      obtain ⟨rfl, _⟩ := pure_ok e
      exact .inl ⟨_, rfl, ⟨_, SqL.of h1⟩, q _ fun B' hB C hC' => have hC := (walk_sub hB hC'); wd_list (bm_new p1.bok hC) h1 (not_new hC h1 h2) (denL_new hC h3)⟩
    | tup h1 h3 =>
      obtain ⟨rfl, _⟩ := pure_ok e
      exact .inr (.inl ⟨_, rfl, ⟨_, SqT.of h1⟩, q _ fun B' hB C hC' => have hC := (walk_sub hB hC'); wd_tup (bm_new p1.bok hC) h1 (denL_new hC h3)⟩)
    | str s =>
      obtain ⟨rfl, _⟩ := pure_ok e
      exact .inr (.inr ⟨_, rfl, q _ fun B' hB C hC' => have hC := (walk_sub hB hC'); wd_str s⟩)
    | _ => exact (stk_ok (g := G0) e).elim
  | .rng es, tg, X, W, sc, a, t, O, cv, h, _, _ => by
    rcases mI_rng h with ⟨py, v, vs, pos, rfl, h1, hl, h2⟩
    obtain ⟨g1, g2, g3⟩ := glo_gl O h1
    have pa := exs_pa es X W sc (v :: vs) O cv h2
    have pl := fun a ha => mEs_plain h2 a ha
    have smb : ∀ {i : Int}, smallB i = true → -(2 ^ 62) ≤ i ∧ i < 2 ^ 62 := fun h => of_decide_eq_true h
    rcases vs with _ | ⟨v2, _ | ⟨v3, _ | ⟨v4, vs⟩⟩⟩
    · refine pi_mono (pi_range1 g1 (O.bn _ (by decide)) pa (star_cons (pl v (by simp)))) fun σ H R ⟨B, ρ, g, p, w⟩ => ⟨B, ρ, g, p, ?_⟩
      unfold evIt at w
      obtain ⟨e1, rfl⟩ := mEs_1 h2
      refine (wr_evs1 w).mono fun ds g1 H1 f1 a1 ⟨w1, d, hd⟩ us n => ?_
      subst hd
      obtain ⟨rs, e, kk⟩ := Wr.ofPr (pr_rng _) w1 a1
      have q := kk H1 .refl a1
      obtain ⟨u, rfl, nn⟩ := den1 n
      obtain ⟨j, rfl, c, rfl⟩ := rng_ok1 e
      obtain rfl := den_int nn
      exact ⟨_, rfl, (smb c).1, (smb c).2, q _ fun B' hB C hC => wd_rng 0 _⟩
    · refine pi_mono (pi_range2 g1 (O.bn _ (by decide)) pa (star_cons2 (pl v (by simp)) (pl v2 (by simp))) (star_cons (pl v2 (by simp)))) fun σ H R ⟨B, ρ, g, p, w⟩ => ⟨B, ρ, g, p, ?_⟩
      unfold evIt at w
      obtain ⟨e1, e2, rfl⟩ := mEs_2 h2
      refine (wr_evs2 w).mono fun ds g1 H1 f1 a1 ⟨w1, d, d2, hd⟩ us n => ?_
      subst hd
      obtain ⟨rs, e, kk⟩ := Wr.ofPr (pr_rng _) w1 a1
      have q := kk H1 .refl a1
      obtain ⟨u, u2, rfl, nn, n2⟩ := den2 n
      obtain ⟨j1, j2, rfl, rfl, c, rfl⟩ := rng_ok2 e
      obtain rfl := den_int nn
      obtain rfl := den_int n2
      exact ⟨_, _, rfl, ⟨(smb c.1).1, (smb c.1).2, (smb c.2).1, (smb c.2).2⟩, q _ fun B' hB C hC => wd_rng _ _⟩
    · refine pi_mono (pi_range3 g1 (O.bn _ (by decide)) pa (star_cons (pl v (by simp))) (star_any fun a ha => pl a (List.mem_cons_of_mem _ ha))) fun σ H R ⟨B, ρ, g, p, w⟩ => ⟨B, ρ, g, p, ?_⟩
      unfold evIt at w
      obtain ⟨e1, e2, e3, rfl⟩ := mEs_3 h2
      refine (wr_evs3 w).mono fun ds g1 H1 f1 a1 ⟨w1, d, d2, d3, hd⟩ us n => ?_
      subst hd
      obtain ⟨rs, e, kk⟩ := Wr.ofPr (pr_rng _) w1 a1
      have q := kk H1 .refl a1
      cases n with | cons nn n' =>
      obtain ⟨u, u2, rfl, n2, n3⟩ := den2 n'
      obtain ⟨j1, j2, rfl, rfl, rfl, c1, c2, rfl⟩ := rng_ok3 e
      obtain rfl := den_int nn
      obtain rfl := den_int n2
      obtain rfl := den_int n3
      exact ⟨_, _, _, _, rfl, RgC.neg (smb c1).1 (smb c1).2 (smb c2).1 (smb c2).2, q _ fun B' hB C hC => wd_rngC _ _ _⟩
    · exact absurd (show vs.length + 3 < 3 from hl) (by omega)
  | .enu e, tg, X, W, sc, a, t, O, cv, h, hk, ht => by
    obtain ⟨elts, kk, tpos, rfl⟩ := ht rfl
    rcases mI_enu h with ⟨py, v, pos, rfl, h1, h2⟩
    obtain ⟨g1, g2, g3⟩ := glo_gl O h1
    refine pi_mono (pi_enumA g1 (O.bn _ (by decide)) (ex_pe e X W sc v O cv h2) (star_cons (mE_plain h2))) fun σ H R ⟨B, ρ, g, p, w⟩ => ⟨B, ρ, g, p, ?_⟩
    unfold evIt at w
    refine (Wr.bind w).mono fun d g1 H1 f1 a1 w1 v n _ => ?_
    have p1 := p.step f1 a1
    obtain ⟨ds, e, kk⟩ := Wr.ofPr (pr_items _) (Wr.bind w1) a1
    have q := Wr.pure (kk H1 .refl a1) a1
    cases n with
    | lst h1 h2 h3 =>
      obtain ⟨rfl, _⟩ := pure_ok e
      exact .inl ⟨_, _, rfl, SqL.of h1, q _ fun B' hB C hC' => have hC := (walk_sub hB hC'); wd_enumL (bm_new p1.bok hC) h1 (not_new hC h1 h2) (denL_new hC h3)⟩
    | tup h1 h3 =>
      obtain ⟨rfl, _⟩ := pure_ok e
      exact .inr (.inl ⟨_, _, rfl, SqT.of h1, q _ fun B' hB C hC' => have hC := (walk_sub hB hC'); wd_enumT (bm_new p1.bok hC) h1 (denL_new hC h3)⟩)
    | str s =>
      obtain ⟨rfl, _⟩ := pure_ok e
      exact .inr (.inr ⟨_, rfl, q _ fun B' hB C hC' => have hC := (walk_sub hB hC'); wd_enumS s⟩)
    | _ => exact (stk_ok (g := G0) e).elim
  | .zip a b, tg, X, W, sc, q, t, O, cv, h, hk, ht => by
    obtain ⟨elts, kk, tpos, rfl⟩ := ht rfl
    rcases mI_zip h with ⟨py, v, u, pos, rfl, h1, h2, h3⟩
    obtain ⟨g1, g2, g3⟩ := glo_gl O h1
    refine pi_mono (RZ.pi_zipA g1 (O.bn _ (by decide)) (pa_cons (ex_pe a X W sc v O cv.l h2) (pa_cons (ex_pe b X W sc u O cv.r h3) pa_nil (star_cons (mE_plain h3))) (star_cons (mE_plain h2))) (star_cons (mE_plain h2)) (star_any (by simpa using mE_plain h3))) fun σ H R ⟨B, ρ, g, p, w⟩ => ⟨B, ρ, g, p.l, ?_⟩
    unfold evIt at w
    refine (Wr.bind w).mono fun d g1 H1 f1 a1 w1 v n _ => ?_
    have p1 := p.step f1 a1
    refine ⟨B, ρ, g1, p1.r, (Wr.bind w1).mono fun d2 g2 H2 f2 a2 w2 v2 n2 _ => ?_⟩
    have p2 := p1.step f2 a2
    have n1 := p1.den f2 n
    obtain ⟨ds, e, kk⟩ := Wr.ofPr (pr_zip _ _) w2 a2
    have q := kk H2 .refl a2
    cases n1 with
    | lst h1 h2 h3 =>
      cases n2 with
      | lst k1 k2 k3 =>
        obtain ⟨rfl, _⟩ := pure_ok e
        exact ⟨_, _, _, _, rfl, .inl ⟨SqL.of h1, SqL.of k1, q _ fun B' hB C hC' => have hC := (walk_sub hB hC'); wd_zipL (bm_new p2.bok hC) h1 (not_new hC h1 h2) (denL_new hC h3) k1 (not_new hC k1 k2) (denL_new hC k3)⟩⟩
      | _ => exact (stk_ok (g := G0) e).elim
    | tup h1 h3 =>
      cases n2 with
      | tup k1 k3 =>
        obtain ⟨rfl, _⟩ := pure_ok e
        exact ⟨_, _, _, _, rfl, .inr ⟨SqT.of h1, SqT.of k1, q _ fun B' hB C hC' => have hC := (walk_sub hB hC'); wd_zipT (bm_new p2.bok hC) h1 (denL_new hC h3) k1 (denL_new hC k3)⟩⟩
      | _ => exact (stk_ok (g := G0) e).elim
    | _ => cases n2 <;> exact (stk_ok (g := G0) e).elim
  | .rev e, tg, X, W, sc, a, t, O, cv, h, _, _ => by
    rcases mI_rev h with ⟨py, v, pos, rfl, h1, h2⟩
    obtain ⟨g1, g2, g3⟩ := glo_gl O h1
    refine pi_mono (RT.pi_revA g1 (O.bn _ (by decide)) (ex_pe e X W sc v O cv h2) (star_cons (mE_plain h2))) fun σ H R ⟨B, ρ, g, p, w⟩ => ⟨B, ρ, g, p, ?_⟩
    unfold evIt at w
    refine (Wr.bind w).mono fun d g1 H1 f1 a1 w1 v n _ => ?_
    have p1 := p.step f1 a1
    obtain ⟨ds, e, kk⟩ := Wr.ofPr (pr_seq _) (Wr.bind w1) a1
    have q := Wr.pure (kk H1 .refl a1) a1
    cases n with
    | lst h1 h2 h3 =>
      obtain ⟨rfl, _⟩ := pure_ok e
      exact ⟨_, _, rfl, .inl ⟨SqL.of h1, q _ fun B' hB C hC' => have hC := (walk_sub hB hC'); wd_revL (bm_new p1.bok hC) h1 (not_new hC h1 h2) (denL_new hC h3)⟩⟩
    | tup h1 h3 =>
      obtain ⟨rfl, _⟩ := pure_ok e
      exact ⟨_, _, rfl, .inr ⟨SqT.of h1, q _ fun B' hB C hC' => have hC := (walk_sub hB hC'); wd_revT (bm_new p1.bok hC) h1 (denL_new hC h3)⟩⟩
    | _ => exact (stk_ok (g := G0) e).elim
end
end
end TI
set_option Elab.async false
set_option linter.all false
set_option maxRecDepth 100000
set_option maxHeartbeats 8000000
/-! a frame's state: slots with values, slots that own what they hold -/
namespace TI
open PySem PySem.Spec PyProof.Rows L2

section
variable (K : PySem.W.Frag) (r : Addr) (H : Hp) (C : Addr → Prop)
inductive OwnD (p : Addr) : D → Prop
  | lst {vs : List V} {ds : List D} : H p = some (.lst vs) → DenL K r H C vs ds → OwnD p (.lst ds)
  | dK {kvs : List (Key × V)} {ks : List Ky} {ds : List D} : H p = some (.dK kvs) → kvs.map (·.1) = ks.map Ky.k → DenL K r H C (kvs.map (·.2)) ds → OwnD p (.dK ks ds)
  | dT {kvs : List (List Key × V)} {ks : List (List Ky)} {ds : List D} : H p = some (.dT kvs) → kvs.map (·.1) = ks.map (·.map Ky.k) → DenL K r H C (kvs.map (·.2)) ds → OwnD p (.dT ks ds)
inductive OwnL : List Addr → List D → Prop
  | nil : OwnL [] []
  | cons {q : Addr} {qs : List Addr} {d : D} {ds : List D} : OwnD K r H C q d → OwnL qs ds → OwnL (q :: qs) (d :: ds)
inductive OwnD2 (p : Addr) (qs : List Addr) : D → Prop
  | lst {ds : List D} : H p = some (.lst (qs.map .ref)) → OwnL K r H C qs ds → OwnD2 p qs (.lst ds)
  | dK {kvs : List (Key × V)} {ks : List Ky} {ds : List D} : H p = some (.dK kvs) → kvs.map (·.1) = ks.map Ky.k → kvs.map (·.2) = qs.map .ref → OwnL K r H C qs ds → OwnD2 p qs (.dK ks ds)
  | dT {kvs : List (List Key × V)} {ks : List (List Ky)} {ds : List D} : H p = some (.dT kvs) → kvs.map (·.1) = ks.map (·.map Ky.k) → kvs.map (·.2) = qs.map .ref → OwnL K r H C qs ds → OwnD2 p qs (.dT ks ds)
/-- a slot, what the frame has there, the addresses that it owns -/
inductive SR : Option V → Sl → List Addr → Prop
  | no {x : Option V} : SR x .no []
  | val {v : V} {d : D} : Den K r H C v d → SR (some v) (.val d) []
  | own {p : Addr} {d : D} : OwnD K r H C p d → SR (some (.ref p)) (.own d) [p]
  | ow2 {p : Addr} {qs : List Addr} {d : D} : OwnD2 K r H C p qs d → SR (some (.ref p)) (.ow2 d) (p :: qs)
end
section
variable {K : PySem.W.Frag} {r : Addr} {H H' : Hp} {C C' : Addr → Prop}
theorem OwnD.there {p : Addr} {d : D} (h : OwnD K r H C p d) : ∃ o, H p = some o ∧ mutO o = true := by
  cases h with
  | lst h _ => exact ⟨_, h, rfl⟩
  | dK h _ _ => exact ⟨_, h, rfl⟩
  | dT h _ _ => exact ⟨_, h, rfl⟩
theorem OwnL.there : ∀ {qs : List Addr} {ds : List D}, OwnL K r H C qs ds → ∀ q ∈ qs, ∃ o, H q = some o ∧ mutO o = true
  | _, _, .nil, q, h => by simp at h
  | _, _, .cons a t, q, h => by
    rcases List.mem_cons.mp h with rfl | h
    · exact a.there
    · exact t.there q h
theorem SR.there {x : Option V} {s : Sl} {os : List Addr} (h : SR K r H C x s os) : ∀ a ∈ os, ∃ o, H a = some o ∧ mutO o = true := by
  intro a ha
  cases h with
  | no => simp at ha
  | val _ => simp at ha
  | own h =>
    obtain rfl : a = _ := by simpa using ha
    exact h.there
  | ow2 h =>
    cases h with
    | lst h1 h2 =>
      rcases List.mem_cons.mp ha with rfl | ha
      · exact ⟨_, h1, rfl⟩
      · exact h2.there a ha
    | dK h1 _ _ h2 =>
      rcases List.mem_cons.mp ha with rfl | ha
      · exact ⟨_, h1, rfl⟩
      · exact h2.there a ha
    | dT h1 _ _ h2 =>
      rcases List.mem_cons.mp ha with rfl | ha
      · exact ⟨_, h1, rfl⟩
      · exact h2.there a ha
theorem OwnD.mono {p : Addr} {d : D} (n : ∀ a o, H a = some o → mutO o = true → ¬ C a → ¬ C' a) (f : Fr C' H H') (b : BM C' H) (k : H' p = H p) (h : OwnD K r H C p d) : OwnD K r H' C' p d := by
  cases h with
  | lst h1 h2 => exact .lst (k.trans h1) (DenL.frM f b _ _ (DenL.ban n _ _ h2))
  | dK h1 e h2 => exact .dK (k.trans h1) e (DenL.frM f b _ _ (DenL.ban n _ _ h2))
  | dT h1 e h2 => exact .dT (k.trans h1) e (DenL.frM f b _ _ (DenL.ban n _ _ h2))
theorem OwnL.mono (n : ∀ a o, H a = some o → mutO o = true → ¬ C a → ¬ C' a) (f : Fr C' H H') (b : BM C' H) : ∀ {qs : List Addr} {ds : List D}, (∀ q ∈ qs, H' q = H q) → OwnL K r H C qs ds → OwnL K r H' C' qs ds
  | _, _, _, .nil => .nil
  | _, _, k, .cons a t => .cons (a.mono n f b (k _ List.mem_cons_self)) (t.mono n f b fun q h => k q (List.mem_cons_of_mem _ h))
theorem OwnD2.mono {p : Addr} {qs : List Addr} {d : D} (n : ∀ a o, H a = some o → mutO o = true → ¬ C a → ¬ C' a) (f : Fr C' H H') (b : BM C' H) (k : ∀ a ∈ p :: qs, H' a = H a) (h : OwnD2 K r H C p qs d) : OwnD2 K r H' C' p qs d := by
  have k1 := k p List.mem_cons_self
  have k2 : ∀ q ∈ qs, H' q = H q := fun q h => k q (List.mem_cons_of_mem _ h)
  cases h with
  | lst h1 h2 => exact .lst (k1.trans h1) (h2.mono n f b k2)
  | dK h1 e1 e2 h2 => exact .dK (k1.trans h1) e1 e2 (h2.mono n f b k2)
  | dT h1 e1 e2 h2 => exact .dT (k1.trans h1) e1 e2 (h2.mono n f b k2)
theorem SR.mono {x : Option V} {s : Sl} {os : List Addr} (n : ∀ a o, H a = some o → mutO o = true → ¬ C a → ¬ C' a) (f : Fr C' H H') (b : BM C' H) (k : ∀ a ∈ os, H' a = H a) (h : SR K r H C x s os) : SR K r H' C' x s os := by
  cases h with
  | no => exact .no
  | val h => exact .val (Den.frM f b _ _ (Den.ban n _ _ h))
  | own h => exact .own (h.mono n f b (k _ List.mem_cons_self))
  | ow2 h => exact .ow2 (h.mono n f b k)
theorem OwnD.den {p : Addr} {d : D} (n : ∀ a o, H a = some o → mutO o = true → ¬ C a → ¬ C' a) (np : ¬ C' p) (h : OwnD K r H C p d) : Den K r H C' (.ref p) d := by
  cases h with
  | lst h1 h2 => exact .lst h1 np (DenL.ban n _ _ h2)
  | dK h1 e h2 => exact .dK h1 np e (DenL.ban n _ _ h2)
  | dT h1 e h2 => exact .dT h1 np e (DenL.ban n _ _ h2)
theorem OwnL.den (n : ∀ a o, H a = some o → mutO o = true → ¬ C a → ¬ C' a) : ∀ {qs : List Addr} {ds : List D}, (∀ q ∈ qs, ¬ C' q) → OwnL K r H C qs ds → DenL K r H C' (qs.map .ref) ds
  | _, _, _, .nil => .nil
  | _, _, k, .cons a t => .cons (a.den n (k _ List.mem_cons_self)) (t.den n fun q h => k q (List.mem_cons_of_mem _ h))
theorem OwnD2.den {p : Addr} {qs : List Addr} {d : D} (n : ∀ a o, H a = some o → mutO o = true → ¬ C a → ¬ C' a) (np : ∀ a ∈ p :: qs, ¬ C' a) (h : OwnD2 K r H C p qs d) : Den K r H C' (.ref p) d := by
  have k1 := np p List.mem_cons_self
  have k2 : ∀ q ∈ qs, ¬ C' q := fun q h => np q (List.mem_cons_of_mem _ h)
  cases h with
  | lst h1 h2 => exact .lst h1 k1 (h2.den n k2)
  | dK h1 e1 e2 h2 => exact .dK h1 k1 e1 (by rw [e2]; exact h2.den n k2)
  | dT h1 e1 e2 h2 => exact .dT h1 k1 e1 (by rw [e2]; exact h2.den n k2)
/-- what a slot holds, its addresses not banned -/
theorem SR.den {x : Option V} {s : Sl} {os : List Addr} {d : D} (n : ∀ a o, H a = some o → mutO o = true → ¬ C a → ¬ C' a) (np : ∀ a ∈ os, ¬ C' a) (h : SR K r H C x s os) (e : s.d = some d) : ∃ v, x = some v ∧ Den K r H C' v d := by
  cases h with
  | no => cases e
  | val h => cases e; exact ⟨_, rfl, Den.ban n _ _ h⟩
  | own h => cases e; exact ⟨_, rfl, h.den n (np _ List.mem_cons_self)⟩
  | ow2 h => cases e; exact ⟨_, rfl, h.den n np⟩
end
/-- all that is banned -/
def Cn (B : Addr → Prop) (o : Nat → List Addr) : Addr → Prop := fun a => B a ∨ ∃ i, a ∈ o i
/-- .. but what the slots vs own -/
def Bx (B : Addr → Prop) (o : Nat → List Addr) (vs : List Nat) : Addr → Prop := fun a => B a ∨ ∃ i, i ∉ vs ∧ a ∈ o i
def Mo (Z : Spc) (o : Nat → List Addr) : Addr → Prop := fun a => Z.F a ∨ ∃ i, a ∈ o i
def uo (o : Nat → List Addr) (i : Nat) (os : List Addr) : Nat → List Addr := fun j => if j = i then os else o j
structure Rel (X : Cc) (Z : Spc) (B : Addr → Prop) (ρ : List Sl) (σ : L2.St) (g : G) (H : Hp) (o : Nat → List Addr) : Prop where
  sub : ∀ a, Z.F a → B a
  bok : BOk B H
  at' : Z.At g H
  len : σ.length = X.n
  lnr : ρ.length = X.n
  sl : ∀ i s, ρ[i]? = some s → ∃ x, σ[i]? = some x ∧ SR X.K Z.r H (Cn B o) x s (o i)
  out : ∀ i, ρ.length ≤ i → o i = []
  dis : ∀ i j a, a ∈ o i → a ∈ o j → i = j
  nd : ∀ i, (o i).Nodup
  nB : ∀ i a, a ∈ o i → ¬ B a
structure Stp (Z : Spc) (H : Hp) (o : Nat → List Addr) (H' : Hp) (o' : Nat → List Addr) : Prop where
  fr : Fr (Mo Z o) H H'
  lt : ∀ a, Mo Z o' a → Mo Z o a ∨ H a = none
  mu : ∀ a, Mo Z o a → ∃ ob, H' a = some ob ∧ mutO ob = true
section
variable {X : Cc} {Z : Spc} {B : Addr → Prop} {ρ ρ' : List Sl} {σ σ' : L2.St} {g g' g1 : G} {H H' H1 : Hp} {o o' o1 : Nat → List Addr}
theorem Rel.there (R : Rel X Z B ρ σ g H o) {i : Nat} {a : Addr} (h : a ∈ o i) : ∃ ob, H a = some ob ∧ mutO ob = true := by
  by_cases z : i < ρ.length
  · obtain ⟨x, _, s⟩ := R.sl i ρ[i] (List.getElem?_eq_getElem z)
    exact s.there a h
  · rw [R.out i (by omega)] at h; simp at h
theorem Rel.cok (R : Rel X Z B ρ σ g H o) : BOk (Cn B o) H := fun a h => by
  rcases h with h | ⟨i, h⟩
  · exact R.bok a h
  · exact R.there h
theorem Rel.bxok (R : Rel X Z B ρ σ g H o) {vs : List Nat} : BOk (Bx B o vs) H := fun a h => by
  rcases h with h | ⟨i, _, h⟩
  · exact R.bok a h
  · exact R.there h
theorem Stp.refl (R : Rel X Z B ρ σ g H o) : Stp Z H o H o := ⟨.refl, fun a h => .inl h, fun a h => by
  rcases h with h | ⟨i, h⟩
  · exact Z.mu R.at' a h
  · exact R.there h⟩
theorem Stp.trans (a : Stp Z H o H1 o1) (b : Stp Z H1 o1 H' o') : Stp Z H o H' o' where
  fr := fun x ob e n => b.fr x ob (a.fr x ob e n) fun m => by
    rcases a.lt x m with m | m
    · exact n m
    · rw [e] at m; cases m
  lt := fun x m => by
    rcases b.lt x m with m | m
    · exact a.lt x m
    · by_cases q : Mo Z o x
      · exact .inl q
      · refine .inr ?_
        cases e : H x with
        | none => rfl
        | some ob => rw [a.fr x ob e q] at m; cases m
  mu := fun x m => by
    by_cases q : Mo Z o1 x
    · exact b.mu x q
    · obtain ⟨ob, e, mm⟩ := a.mu x m
      exact ⟨ob, b.fr x ob e q, mm⟩
theorem Rel.pre (R : Rel X Z B ρ σ g H o) (vs : List Nat) : Pre X Z (Bx B o vs) ρ g σ H vs where
  sub := fun a h => .inl (R.sub a h)
  bok := R.bxok
  at' := R.at'
  len := R.len
  sl := fun i hi d e => by
    unfold vget at e
    cases q : ρ[i]? with
    | none => rw [q] at e; cases e
    | some s =>
      rw [q] at e
      obtain ⟨x, h1, h2⟩ := R.sl i s q
      obtain ⟨v, rfl, h3⟩ := h2.den (C' := Bx B o vs) (fun a ob _ _ n m => n (by
        rcases m with m | ⟨j, _, m⟩
        · exact .inl m
        · exact .inr ⟨j, m⟩)) (fun a ha m => by
        rcases m with m | ⟨j, nj, m⟩
        · exact R.nB i a ha m
        · exact nj ((R.dis i j a ha m) ▸ hi)) (show s.d = some d from e)
      exact ⟨v, h1, h3⟩
/-- an expression was evaluated -/
theorem Rel.step (R : Rel X Z B ρ σ g H o) (f : Fr Z.F H H1) (a : Z.At g1 H1) : Rel X Z B ρ σ g1 H1 o where
  sub := R.sub
  bok := bok_step R.sub R.bok f a
  at' := a
  len := R.len
  lnr := R.lnr
  sl := fun i s e => by
    obtain ⟨x, h1, h2⟩ := R.sl i s e
    refine ⟨x, h1, h2.mono (fun _ _ _ _ n => n) (f.mono fun y h => .inl (R.sub y h)) R.cok.bm fun y hy => ?_⟩
    obtain ⟨ob, e, _⟩ := R.there hy
    rw [e]; exact f y ob e fun z => R.nB i y hy (R.sub y z)
  out := R.out
  dis := R.dis
  nd := R.nd
  nB := R.nB
theorem Rel.stp (R : Rel X Z B ρ σ g H o) (f : Fr Z.F H H1) (a : Z.At g1 H1) : Stp Z H o H1 o :=
  ⟨f.mono fun y h => .inl h, fun _ h => .inl h, (Stp.refl (R.step f a)).mu⟩
/-- a slot is set anew -/
theorem Rel.put {i : Nat} {os : List Addr} {s : Sl} {x : Option V} (R : Rel X Z B ρ σ g H o) (hi : i < X.n) (f : Fr (Cn B (uo o i os)) H H') (keep : ∀ j, j ≠ i → ∀ a ∈ o j, H' a = H a) (at' : Z.At g' H') (bok : BOk B H')
    (new : ∀ a ∈ os, ¬ B a ∧ (a ∈ o i ∨ H a = none)) (nd : os.Nodup) (hs : SR X.K Z.r H' (Cn B (uo o i os)) x s os) : Rel X Z B (ρ.set i s) (σ.set i x) g' H' (uo o i os) where
  sub := R.sub
  bok := bok
  at' := at'
  len := by rw [List.length_set]; exact R.len
  lnr := by rw [List.length_set]; exact R.lnr
  sl := fun j s' e => by
    by_cases q : j = i
    · subst q
      rw [List.getElem?_set_self (by rw [R.lnr]; exact hi)] at e
      cases e
      refine ⟨x, List.getElem?_set_self (by rw [R.len]; exact hi), ?_⟩
      simp only [uo, if_pos]
      exact hs
    · rw [List.getElem?_set_ne (Ne.symm q)] at e
      obtain ⟨y, h1, h2⟩ := R.sl j s' e
      refine ⟨y, by rw [List.getElem?_set_ne (Ne.symm q)]; exact h1, ?_⟩
      have e1 : uo o i os j = o j := by simp [uo, q]
      rw [e1]
      refine h2.mono (fun a ob ea _ n m => n ?_) f (fun a ob ea m => ?_) (keep j q)
      · rcases m with m | ⟨l, m⟩
        · exact .inl m
        · by_cases z : l = i
          · subst z
            simp only [uo, if_pos] at m
            rcases (new a m).2 with w | w
            · exact .inr ⟨_, w⟩
            · rw [ea] at w; cases w
          · simp only [uo, if_neg z] at m
            exact .inr ⟨l, m⟩
      · rcases m with m | ⟨l, m⟩
        · exact R.bok.bm a ob ea m
        · by_cases z : l = i
          · subst z
            simp only [uo, if_pos] at m
            rcases (new a m).2 with w | w
            · obtain ⟨ob', e', mm⟩ := R.there w
              rw [ea] at e'; cases e'; exact mm
            · rw [ea] at w; cases w
          · simp only [uo, if_neg z] at m
            obtain ⟨ob', e', mm⟩ := R.there m
            rw [ea] at e'; cases e'; exact mm
  out := fun j hj => by
    rw [List.length_set] at hj
    by_cases z : j = i
    · subst z; rw [R.lnr] at hj; omega
    · simp only [uo, if_neg z]; exact R.out j hj
  dis := fun j l a h1 h2 => by
    have key : ∀ l, l ≠ i → a ∈ o l → a ∈ os → False := fun l nl h1 h2 => by
      rcases (new a h2).2 with w | w
      · exact nl (R.dis l i a h1 w)
      · obtain ⟨ob', e', _⟩ := R.there h1
        rw [w] at e'; cases e'
    by_cases z : j = i
    · by_cases z2 : l = i
      · rw [z, z2]
      · subst z
        simp only [uo, if_pos, if_neg z2] at h1 h2
        exact (key l z2 h2 h1).elim
    · by_cases z2 : l = i
      · subst z2
        simp only [uo, if_pos, if_neg z] at h1 h2
        exact (key j z h1 h2).elim
      · simp only [uo, if_neg z, if_neg z2] at h1 h2
        exact R.dis j l a h1 h2
  nd := fun j => by
    by_cases z : j = i
    · simp only [uo, if_pos z]; exact nd
    · simp only [uo, if_neg z]; exact R.nd j
  nB := fun j a h => by
    by_cases z : j = i
    · simp only [uo, if_pos z] at h; exact (new a h).1
    · simp only [uo, if_neg z] at h; exact R.nB j a h
theorem Rel.put_stp {i : Nat} {os : List Addr} {s : Sl} {x : Option V} (R : Rel X Z B ρ σ g H o) (R' : Rel X Z B (ρ.set i s) (σ.set i x) g' H' (uo o i os)) (f : Fr (Mo Z o) H H') (keep : ∀ j, ∀ a ∈ o j, ∃ ob, H' a = some ob ∧ mutO ob = true)
    (new : ∀ a ∈ os, a ∈ o i ∨ H a = none) : Stp Z H o H' (uo o i os) where
  fr := f
  lt := fun a m => by
    rcases m with m | ⟨l, m⟩
    · exact .inl (.inl m)
    · by_cases z : l = i
      · subst z
        simp only [uo, if_pos] at m
        rcases new a m with w | w
        · exact .inl (.inr ⟨_, w⟩)
        · exact .inr w
      · simp only [uo, if_neg z] at m
        exact .inl (.inr ⟨l, m⟩)
  mu := fun a m => by
    rcases m with m | ⟨l, m⟩
    · exact Z.mu R'.at' a m
    · exact keep l a m
/-- a slot takes a value -/
theorem Rel.setV {i : Nat} {v : V} {d : D} (R : Rel X Z B ρ σ g H o) (hi : i < X.n) (h : Den X.K Z.r H (Cn B o) v d) : Rel X Z B (ρ.set i (.val d)) (σ.set i (some v)) g H (uo o i []) ∧ Stp Z H o H (uo o i []) := by
  have R' : Rel X Z B (ρ.set i (.val d)) (σ.set i (some v)) g H (uo o i []) := R.put hi .refl (fun _ _ _ _ => rfl) R.at' R.bok (by simp) .nil (.val (Den.ban (fun a ob _ _ n m => n (by
    rcases m with m | ⟨l, m⟩
    · exact .inl m
    · by_cases z : l = i
      · subst z; simp [uo] at m
      · simp only [uo, if_neg z] at m
        exact .inr ⟨l, m⟩)) _ _ h))
  exact ⟨R', R.put_stp R' .refl (fun j a h => R.there h) (by simp)⟩
/-- slots give up what they own -/
theorem Rel.frz1 (R : Rel X Z B ρ σ g H o) (i : Nat) : Rel X Z B (frz1 ρ i) σ g H (uo o i []) ∧ Stp Z H o H (uo o i []) := by
  unfold TI.frz1
  have go : ∀ s d, ρ[i]? = some s → s.d = some d → Rel X Z B (ρ.set i (.val d)) σ g H (uo o i []) ∧ Stp Z H o H (uo o i []) := fun s d e ed => by
    have hi : i < X.n := by rw [← R.lnr]; exact (List.getElem?_eq_some_iff.mp e).1
    obtain ⟨x, h1, h2⟩ := R.sl i s e
    obtain ⟨v, rfl, h3⟩ := h2.den (C' := Cn B (uo o i [])) (fun a ob _ _ n m => n (by
      rcases m with m | ⟨l, m⟩
      · exact .inl m
      · by_cases z : l = i
        · subst z; simp [uo] at m
        · simp only [uo, if_neg z] at m
          exact .inr ⟨l, m⟩)) (fun a ha m => by
      rcases m with m | ⟨l, m⟩
      · exact R.nB i a ha m
      · by_cases z : l = i
        · subst z; simp [uo] at m
        · simp only [uo, if_neg z] at m
          exact z (R.dis l i a m ha)) ed
    have R' : Rel X Z B (ρ.set i (.val d)) (σ.set i (some v)) g H (uo o i []) := R.put hi .refl (fun _ _ _ _ => rfl) R.at' R.bok (by simp) .nil (.val h3)
    have S' := R.put_stp R' .refl (fun j a h => R.there h) (by simp)
    have e2 : σ.set i (some v) = σ := by
      obtain ⟨hl, e⟩ := List.getElem?_eq_some_iff.mp h1
      rw [← e]; exact List.set_getElem_self hl
    rw [e2] at R'
    exact ⟨R', S'⟩
  have stay : (∀ s, ρ[i]? = some s → (∀ d, s ≠ .own d) ∧ ∀ d, s ≠ .ow2 d) → Rel X Z B ρ σ g H (uo o i []) ∧ Stp Z H o H (uo o i []) := fun h => by
    have e : uo o i [] = o := by
      funext j
      by_cases z : j = i
      · subst z
        simp only [uo, if_pos]
        cases q : ρ[j]? with
        | none => exact (R.out j (by rw [List.getElem?_eq_none_iff] at q; exact q)).symm
        | some s =>
          obtain ⟨x, _, h2⟩ := R.sl j s q
          obtain ⟨n1, n2⟩ := h s q
          generalize o j = os at h2
          cases h2 with
          | no => rfl
          | val _ => rfl
          | own _ => exact absurd rfl (n1 _)
          | ow2 _ => exact absurd rfl (n2 _)
      · simp only [uo, if_neg z]
    rw [e]
    exact ⟨R, .refl R⟩
  split
  · rename_i d e; exact go _ d e rfl
  · rename_i d e; exact go _ d e rfl
  · rename_i n1 n2
    exact stay fun s e => ⟨fun d z => n1 d (by rw [e, z]), fun d z => n2 d (by rw [e, z])⟩
theorem Rel.frz : ∀ (vs : List Nat) {ρ : List Sl} {o : Nat → List Addr}, Rel X Z B ρ σ g H o → ∃ o', Rel X Z B (frz ρ vs) σ g H o' ∧ Stp Z H o H o' ∧ ∀ a, Cn B o' a → Bx B o vs a
  | [], ρ, o, R => ⟨o, R, .refl R, fun a h => by
    rcases h with h | ⟨l, h⟩
    · exact .inl h
    · exact .inr ⟨l, by simp, h⟩⟩
  | v :: vs, ρ, o, R => by
    obtain ⟨R1, S1⟩ := R.frz1 v
    obtain ⟨o', R2, S2, h⟩ := Rel.frz vs R1
    refine ⟨o', R2, S1.trans S2, fun a ha => ?_⟩
    rcases h a ha with m | ⟨l, nl, m⟩
    · exact .inl m
    · by_cases z : l = v
      · subst z; simp [uo] at m
      · simp only [uo, if_neg z] at m
        exact .inr ⟨l, by simp [z, nl], m⟩
theorem noOwn_bx (R : Rel X Z B ρ σ g H o) {vs : List Nat} (h : noOwn ρ vs = true) : ∀ a, Cn B o a → Bx B o vs a := fun a ha => by
  rcases ha with m | ⟨l, m⟩
  · exact .inl m
  · refine .inr ⟨l, fun hl => ?_, m⟩
    have := List.all_eq_true.mp h l hl
    cases q : ρ[l]? with
    | none => rw [R.out l (by rw [List.getElem?_eq_none_iff] at q; exact q)] at m; simp at m
    | some s =>
      rw [q] at this
      obtain ⟨x, _, h2⟩ := R.sl l s q
      generalize o l = os at h2 m
      cases h2 with
      | no => simp at m
      | val _ => simp at m
      | own _ => cases this
      | ow2 _ => cases this
/-- the state in which a value may be kept -/
theorem Rel.shr (R : Rel X Z B ρ σ g H o) (vs : List Nat) (p : Bool) : ∃ o', Rel X Z B (shr ρ vs p) σ g H o' ∧ Stp Z H o H o' ∧ (p = true ∨ ∀ a, Cn B o' a → Bx B o vs a) := by
  unfold TI.shr
  split
  · rename_i h
    rw [Bool.or_eq_true] at h
    refine ⟨o, R, .refl R, ?_⟩
    rcases h with h | h
    · exact .inr (noOwn_bx R h)
    · exact .inl h
  · obtain ⟨o', h1, h2, h3⟩ := R.frz vs
    exact ⟨o', h1, h2, .inr h3⟩
end
end TI
set_option Elab.async false
set_option linter.all false
set_option maxRecDepth 100000
set_option maxHeartbeats 8000000
/-! statements: that a statement is a piece of the text; what it does is what the model does -/
namespace TI
open PySem PySem.Spec PyProof.Rows L2

/-! ### the check -/
def noComp : Expr → Bool
  | .ListComp _ _ _ _ | .SetComp _ _ _ _ | .DictComp _ _ _ _ _ => false
  | _ => true
def swOk (sc : Scope) (x : Str) (p : Pos) : Expr → Bool
  | .ListComp _ _ scope cp => decide (sc.names.lookup x = some .local) && (decide (sc.kind = .function) && ((p.line == cp.line) && !(scope.names.any fun (n, k) => n == x && (k == .local || k == .cell))))
  | e => noComp e
def Ex.isC : Ex → Bool
  | .comp _ _ _ _ _ => true
  | _ => false
def isTup : Expr → Bool
  | .Tuple _ _ _ => true
  | _ => false
def mNm (N : List Str) (sc : Scope) (i : Nat) (x : Str) : Bool := decide (N[i]? = some x) && (decide (sc.names.lookup x = some .local) || decide (sc.names.lookup x = some .cell))
def mCls (sc : Scope) : List Str → List Expr → Bool
  | [], [] => true
  | n :: ns, .Name y _ :: es => decide (n = y) && (mGlo sc y && mCls sc ns es)
  | _, _ => false
/-- the name of the caught exception -/
def mEx (v : Option Str) : Expr → Bool
  | .Name y _ => decide (v = some y)
  | _ => false
def mIs (sc : Scope) (v : Option Str) (ns : List Str) (one : Bool) : Expr → Bool
  | .Call (.Name y _) [a, c] [] _ => decide (y = ("isinstance" : Str)) && (mGlo sc y && (mEx v a && (decide (ns.length ≤ 1000) && if one = true then mCls sc ns [c] else match c with
    | .Tuple cs _ _ => mCls sc ns cs
    | _ => false)))
  | _ => false
mutual
def mHE (sc : Scope) (v : Option Str) : HE → Expr → Bool
  | .con c, q => match q with
    | .Constant c' _ _ => decide (c = c')
    | _ => false
  | .at f, q => match q with
    | .Attribute a g _ => mEx v a && decide (f = g)
    | _ => false
  | .isi ns one, q => mIs sc v ns one q
  | .tup es, q => match q with
    | .Tuple vs _ _ => decide (vs.length ≤ 1000) && mHEs sc v es vs
    | _ => false
def mHEs (sc : Scope) (v : Option Str) : HEs → List Expr → Bool
  | .nil, [] => true
  | .cons e es, a :: as => mHE sc v e a && mHEs sc v es as
  | _, _ => false
end
mutual
def mHT (sc : Scope) (v : Option Str) : HT → Expr → Bool
  | .isi ns one, q => mIs sc v ns one q
  | .nt a, q => match q with
    | .UnaryOp .Not x _ => mHT sc v a x
    | _ => false
  | .and ts, q => match q with
    | .BoolOp .And vs _ => mHTs sc v ts vs
    | _ => false
  | .or ts, q => match q with
    | .BoolOp .Or vs _ => mHTs sc v ts vs
    | _ => false
def mHTs (sc : Scope) (v : Option Str) : HTs → List Expr → Bool
  | .cons e .nil, [a] => mHT sc v e a
  | .cons e (.cons f es), a :: b :: as => mHT sc v e a && mHTs sc v (.cons f es) (b :: as)
  | _, _ => false
end
def mHS (sc : Scope) (v : Option Str) : HS → List Stmt → Bool
  | .ret e, q => match q with
    | [.Return (some a) _] => mHE sc v e a
    | _ => false
  | .ife t a r, q => match q with
    | .If c [.Return (some b) _] [] _ :: rest => mHT sc v t c && (mHE sc v a b && mHS sc v r rest)
    | _ => false
mutual
def mS (N : List Str) (sc : Scope) : St → Stmt → Bool
  | .set _ i e, q => match q with
    | .Assign [.Name x p] v _ => mNm N sc i x && (mE N sc e v && (swOk sc x p v && (noComp v || e.isC)))
    | _ => false
  | .unp ts e, q => match q with
    | .Assign [.Tuple es kk tp] v _ => mTs N sc ts es && (mE N sc e v && (noComp v && !(isTup v)))
    | _ => false
  | .aug i o e, q => match q with
    | .AugAssign (.Name x p) o' v _ => decide (o = o') && ((decide (o = .Add) || decide (o = .Sub)) && (mNm N sc i x && mE N sc e v))
    | _ => false
  | .app i e, q => match q with
    | .Expr (.Call (.Attribute (.Name x p) nm ap) [v] [] cp) _ => decide (nm = ("append" : Str)) && (mName N sc i x && (mE N sc e v && (ap.endLine == cp.line)))
    | _ => false
  | .sti i k e, q => match q with
    | .Assign [.Subscript (.Name x p) j sp] v _ => mName N sc i x && (mE N sc k j && mE N sc e v)
    | _ => false
  | .apk i k e, q => match q with
    | .Expr (.Call (.Attribute (.Subscript (.Name x p) j sp) nm ap) [v] [] cp) _ => decide (nm = ("append" : Str)) && (mName N sc i x && (mE N sc k j && (mE N sc e v && (ap.endLine == cp.line))))
    | _ => false
  | .stf i k e, q => match q with
    | .Assign [.Subscript (.Name x p) j sp] v _ => mName N sc i x && (mE N sc k j && mE N sc e v)
    | _ => false
  | .st2 i k j e, q => match q with
    | .Assign [.Subscript (.Subscript (.Name x p) kk sp0) jj sp] v _ => mName N sc i x && (mE N sc k kk && (mE N sc j jj && mE N sc e v))
    | _ => false
  | .rse x nms es, q => match q with
    | .Raise (some (.Call (.Name y p) (v :: vs) [] pos)) none _ => decide (x = y) && (mGlo sc x && mEs N sc es (v :: vs))
    | _ => false
  | .tr b x i h _, q => match q with
    | .Try body [.ExceptHandler (some (.Name y _)) none (b0 :: su) _] [] [] _ => decide (i = none) && (decide (x = y) && (mGlo sc x && (mSs N sc b body && mHS sc none h (b0 :: su))))
    | .Try body [.ExceptHandler (some (.Name y _)) (some n) (b0 :: su) _] [] [] _ => decide ((i.bind fun i => N[i]?) = some n) && (decide (sc.names.lookup n = some .local) && ((!(n == ("__debug__" : Str)) && !(n == ("__classdict__" : Str))) && (decide (x = y) && (mGlo sc x && (mSs N sc b body && mHS sc (some n) h (b0 :: su))))))
    | _ => false
  | .exp e, q => match q with
    | .Expr v _ => mE N sc e v && noComp v
    | _ => false
  | .ret e, q => match q with
    | .Return (some v) _ => mE N sc e v
    | _ => false
  | .ife c a b, q => match q with
    | .If c' a' b' _ => mE N sc c c' && (mSs N sc a a' && mSs N sc b b')
    | _ => false
  | .whl c b, q => match q with
    | .While c' b' [] _ => mE N sc c c' && mSs N sc b b'
    | _ => false
  | .for_ tg it b, q => match q with
    | .For t i b' [] _ => okTg it tg && (mI N sc it i && (mT N sc tg t && mSs N sc b b'))
    | _ => false
  | .brk, q => match q with
    | .Break _ => true
    | _ => false
  | .cnt, q => match q with
    | .Continue _ => true
    | _ => false
  | .pas, q => match q with
    | .Pass _ => true
    | _ => false
def mSs (N : List Str) (sc : Scope) : Sts → List Stmt → Bool
  | .nil, [] => true
  | .cons s ss, a :: as => mS N sc s a && mSs N sc ss as
  | _, _ => false
end
mutual
def St.calls : St → List (Str × Sem)
  | .set _ _ e | .unp _ e | .aug _ _ e | .app _ e | .exp e | .ret e => e.calls
  | .sti _ k e | .stf _ k e => e.calls ++ k.calls
  | .apk _ k e => k.calls ++ e.calls
  | .st2 _ k j e => e.calls ++ (k.calls ++ j.calls)
  | .ife c a b => c.calls ++ (a.calls ++ b.calls)
  | .whl c b => c.calls ++ b.calls
  | .for_ _ it b => it.calls ++ b.calls
  | .rse _ _ es => es.calls
  | .tr b _ _ _ _ => b.calls
  | .brk | .cnt | .pas => []
def Sts.calls : Sts → List (Str × Sem)
  | .nil => []
  | .cons s ss => s.calls ++ ss.calls
end
mutual
def St.globs : St → List (Str × D)
  | .set _ _ e | .unp _ e | .aug _ _ e | .app _ e | .exp e | .ret e => e.globs
  | .sti _ k e | .stf _ k e => e.globs ++ k.globs
  | .apk _ k e => k.globs ++ e.globs
  | .st2 _ k j e => e.globs ++ (k.globs ++ j.globs)
  | .ife c a b => c.globs ++ (a.globs ++ b.globs)
  | .whl c b => c.globs ++ b.globs
  | .for_ _ it b => it.globs ++ b.globs
  | .rse _ _ es => es.globs
  | .tr b _ _ _ _ => b.globs
  | .brk | .cnt | .pas => []
def Sts.globs : Sts → List (Str × D)
  | .nil => []
  | .cons s ss => s.globs ++ ss.globs
end

mutual
/-- what is raised -/
def St.rses : St → List (Str × List Str)
  | .rse x nms _ => [(x, nms)]
  | .ife _ a b => a.rses ++ b.rses
  | .whl _ b => b.rses
  | .for_ _ _ b => b.rses
  | .tr b _ _ _ _ => b.rses
  | _ => []
def Sts.rses : Sts → List (Str × List Str)
  | .nil => []
  | .cons s ss => s.rses ++ ss.rses
end
structure Tri where
  x : Str
  ns : List Str
  ats : List Str
  tab : List (Str × List Str)
mutual
/-- what is caught -/
def St.tris : St → List Tri
  | .tr b x _ h tab => ⟨x, h.ns, h.ats, tab⟩ :: b.tris
  | .ife _ a b => a.tris ++ b.tris
  | .whl _ b => b.tris
  | .for_ _ _ b => b.tris
  | _ => []
def Sts.tris : Sts → List Tri
  | .nil => []
  | .cons s ss => s.tris ++ ss.tris
end
/-- a class of exceptions whose __init__ keeps its arguments by these names (the last first) -/
structure RsOk (P : Program) (w : World) (K : PySem.W.Frag) (mg : Str → Option Value) (base : Heap) (x : Str) (nms : List Str) : Prop where
  ex : ∃ (C fI : Addr) (fd : FuncData) (ps : List Str), mg x = some (.ref C) ∧ OexC K C ∧ PySem.W.findIn K (.ref C) "__init__" = some (some (.ref fI)) ∧ PySem.W.typeIn K (.ref fI) = some (.type "function") ∧ Binds K fd ps [] ∧ ps.length = nms.length + 1 ∧
    FnOk P w K mg base (L2.CX P w) 1 fI fd ps (fun vs H Q _ => ∃ (a : Addr) (ws : List V), vs = .ref a :: ws ∧ vs.length = ps.length ∧ ws.length = nms.length ∧ H a = some (exo a C none) ∧
      ∀ H2 d, H d = none → d ≠ a → (∀ b, b ≠ a → b ≠ d → H2 b = H b) → H2 a = some (exo a C (some d)) → H2 d = some (exd d (nms.zip ws.reverse)) → Q .non H2)
  few : nms.length ≤ 900
abbrev RsX (X : Cx) (p : Str × List Str) : Prop := RsOk X.prog X.w X.K X.mg X.base p.1 p.2
/-! ### what is wished behind a statement -/
def WrS (X : Cc) (Z : Spc) (B : Addr → Prop) (W : WX) (H : Hp) (o : Nat → List Addr) (D : Ends) : Res Out → Prop
  | .ok (.nx ρ') g' => ∀ σ' H' o', Rel X Z B ρ' σ' g' H' o' → Stp Z H o H' o' → D.nx σ' H'
  | .ok (.bk ρ') g' => ∀ σ' H' o', Rel X Z B ρ' σ' g' H' o' → Stp Z H o H' o' → D.bk σ' H'
  | .ok (.ct ρ') g' => ∀ σ' H' o', Rel X Z B ρ' σ' g' H' o' → Stp Z H o H' o' → D.ct σ' H'
  | .ok (.rt d) g' => ∀ v H', Z.At g' H' → Fr (Mo Z o) H H' → Den X.K Z.r H' B v d → D.rt v H'
  | .ok (.ex e _) g' => ∀ (σ' : L2.St) cls dd H', σ'.length = X.n → BOk B H' → Z.At g' H' → Fr (Mo Z o) H H' → ErrAt X Z B e cls dd H' → W cls dd σ' H'
  | _ => False
def tS (X : Cc) (Z : Spc) (W : WX) (m : List Sl → M Out) : TS := fun D σ H => ∃ B ρ g o, Rel X Z B ρ σ g H o ∧ WrS X Z B W H o D (m ρ g)
theorem ErrAt.ban {X : Cc} {Z : Spc} {B B' : Addr → Prop} {e : Er} {cls : Value} {dd : Option Addr} {H : Hp} (n : ∀ a, B' a → B a) (h : ErrAt X Z B e cls dd H) : ErrAt X Z B' e cls dd H := by
  obtain ⟨C, dx, fs, h1, h2, h3, h4, h6, h5⟩ := h
  exact ⟨C, dx, fs, h1, h2, h3, h4, h6, DenL.ban (fun a ob _ _ m z => m (n a z)) _ _ h5⟩
section
variable {X : Cc} {Z : Spc} {B : Addr → Prop} {W : WX} {ρ ρ' : List Sl} {σ σ' : L2.St} {g g' g1 : G} {H H' H1 : Hp} {o o' o1 : Nat → List Addr} {D D' : Ends}
theorem Stp.fr_mo (S : Stp Z H o H1 o1) (f : Fr (Mo Z o1) H1 H') : Fr (Mo Z o) H H' := fun x ob e n => f x ob (S.fr x ob e n) fun m => by
  rcases S.lt x m with m | m
  · exact n m
  · rw [e] at m; cases m
theorem WrS.from {r : Res Out} (h : WrS X Z B W H o D r) (S : Stp Z H o H1 o1) : WrS X Z B W H1 o1 D r := by
  cases r with
  | ok u g =>
    cases u with
    | nx ρ => exact fun σ' H' o' R s => h σ' H' o' R (S.trans s)
    | bk ρ => exact fun σ' H' o' R s => h σ' H' o' R (S.trans s)
    | ct ρ => exact fun σ' H' o' R s => h σ' H' o' R (S.trans s)
    | rt d => exact fun v H' a f n => h v H' a (S.fr_mo f) n
    | ex e ρ => exact fun σ' cls dd H' l b a f n => h σ' cls dd H' l b a (S.fr_mo f) n
  | err e g => exact h
  | stuck => exact h
theorem WrS.stk {g : G} (h : WrS X Z B W H o D ((M.stk : M Out) g)) : False := h
theorem WrS.grd {c : Bool} {m : M Out} {g : G} (h : WrS X Z B W H o D (grd c m g)) : c = true ∧ WrS X Z B W H o D (m g) := by
  unfold TI.grd at h
  split at h
  · exact ⟨by assumption, h⟩
  · exact h.elim
/-- on with what an expression gave -/
theorem lif_wr {α : Type} {m : M α} {k : α → M Out} (vs : List Nat) (R : Rel X Z B ρ σ g H o) (h : WrS X Z B W H o D (lif m ρ' k g)) :
    Wr Z H (fun a g1 H1 => Rel X Z B ρ σ g1 H1 o ∧ Stp Z H o H1 o ∧ WrS X Z B W H o D (k a g1)) (erW X Z (Bx B o vs) W σ) (m g) := by
  unfold lif at h
  cases e : m g with
  | ok a g1 =>
    rw [e] at h
    exact fun H1 f1 a1 => ⟨R.step f1 a1, R.stp f1 a1, h⟩
  | err x g1 =>
    rw [e] at h
    exact fun H1 f1 a1 cls dd ea => h σ cls dd H1 R.len (R.step f1 a1).bok a1 (f1.mono fun y z => .inl z) (ea.ban fun a z => .inl z)
  | stuck => rw [e] at h; exact h.elim
theorem bx_keep {vs : List Nat} {p : Bool} {d : TI.D} {v : V} {C : Addr → Prop} (h : p = true ∨ ∀ a, C a → Bx B o vs a) (hp : p = true → d.pure = true) (n : Den X.K Z.r H (Bx B o vs) v d) : Den X.K Z.r H C v d := by
  rcases h with h | h
  · exact Den.pur d v (hp h) n
  · exact Den.ban (fun a ob _ _ m z => m (h a z)) d v n
theorem bx_B {vs : List Nat} {d : TI.D} {v : V} (n : Den X.K Z.r H (Bx B o vs) v d) : Den X.K Z.r H B v d := Den.ban (fun a ob _ _ m z => m (.inl z)) d v n
theorem mem_one {α : Type} {a b : α} (h : a ∈ [b]) : a = b := by simpa using h
/-- an own list is laid into a slot -/
theorem Rel.setO {i : Nat} {p : Addr} {d : TI.D} {vs : List Nat} (R : Rel X Z B ρ σ g H o) (hi : i < X.n) (f : Fr Z.F H H1) (a1 : Z.At g1 H1) (n : Den X.K Z.r H1 (Bx B o vs) (.ref p) d) (np : H p = none) (ic : isCont d = true) (pk : TI.D.pureL d.kids = true) :
    Rel X Z B (ρ.set i (.own d)) (σ.set i (some (.ref p))) g1 H1 (uo o i [p]) ∧ Stp Z H o H1 (uo o i [p]) := by
  have R1 := R.step f a1
  have nB : ¬ B p := fun z => by
    obtain ⟨ob, e, _⟩ := R.bok p z
    rw [np] at e; cases e
  have R' : Rel X Z B (ρ.set i (.own d)) (σ.set i (some (.ref p))) g1 H1 (uo o i [p]) := by
    refine R.put hi (f.mono fun y z => .inl (R.sub y z)) (fun j _ a ha => ?_) a1 R1.bok (fun a ha => ?_) (by simp) (.own ?_)
    · obtain ⟨ob, e, _⟩ := R.there ha
      rw [e]; exact f a ob e fun z => R.nB j a ha (R.sub a z)
    · obtain rfl := mem_one ha
      exact ⟨nB, .inr np⟩
    · cases n with
      | lst h1 _ h3 => exact .lst h1 (DenL.pur _ _ pk h3)
      | dK h1 _ e h3 => exact .dK h1 e (DenL.pur _ _ pk h3)
      | dT h1 _ e h3 => exact .dT h1 e (DenL.pur _ _ pk h3)
      | _ => cases ic
  exact ⟨R', R.put_stp R' (f.mono fun y z => .inl z) (fun j a ha => R1.there ha) fun a ha => by
    obtain rfl := mem_one ha
    exact .inr np⟩
theorem ownL_of {C : Addr → Prop} {B' : Addr → Prop} {r : Addr} {K : PySem.W.Frag} : ∀ {qs : List Addr} {ds : List TI.D}, DenL K r H B' (qs.map .ref) ds → ds.all isCont = true → (ds.all fun x => TI.D.pureL x.kids) = true → OwnL K r H C qs ds
  | [], ds, h, _, _ => by cases h; exact .nil
  | q :: qs, ds, h, h1, h2 => by
    cases h with
    | cons n t =>
      simp only [List.all_cons, Bool.and_eq_true] at h1 h2
      refine .cons ?_ (ownL_of t h1.2 h2.2)
      cases n with
      | lst h _ h3 => exact .lst h (DenL.pur _ _ h2.1 h3)
      | dK h _ e h3 => exact .dK h e (DenL.pur _ _ h2.1 h3)
      | dT h _ e h3 => exact .dT h e (DenL.pur _ _ h2.1 h3)
      | tup _ _ => cases h1.1
      | wel => cases h1.1
theorem Rel.setO2 {i : Nat} {p : Addr} {qs : List Addr} {d : TI.D} (R : Rel X Z B ρ σ g H o) (hi : i < X.n) (f : Fr Z.F H H1) (a1 : Z.At g1 H1) (np : ∀ a ∈ p :: qs, H a = none) (nd : (p :: qs).Nodup) (h : OwnD2 X.K Z.r H1 (Cn B (uo o i (p :: qs))) p qs d) :
    Rel X Z B (ρ.set i (.ow2 d)) (σ.set i (some (.ref p))) g1 H1 (uo o i (p :: qs)) ∧ Stp Z H o H1 (uo o i (p :: qs)) := by
  have R1 := R.step f a1
  have nB : ∀ a ∈ p :: qs, ¬ B a := fun a ha z => by
    obtain ⟨ob, e, _⟩ := R.bok a z
    rw [np a ha] at e; cases e
  have R' : Rel X Z B (ρ.set i (.ow2 d)) (σ.set i (some (.ref p))) g1 H1 (uo o i (p :: qs)) := by
    refine R.put hi (f.mono fun y z => .inl (R.sub y z)) (fun j _ a ha => ?_) a1 R1.bok (fun a ha => ⟨nB a ha, .inr (np a ha)⟩) nd (.ow2 h)
    obtain ⟨ob, e, _⟩ := R.there ha
    rw [e]; exact f a ob e fun z => R.nB j a ha (R.sub a z)
  exact ⟨R', R.put_stp R' (f.mono fun y z => .inl z) (fun j a ha => R1.there ha) fun a ha => .inr (np a ha)⟩
end
end TI
set_option Elab.async false
set_option linter.all false
set_option maxRecDepth 100000
set_option maxHeartbeats 4000000
/-! except suites -/
namespace TI
open PySem PySem.Spec PyProof.Rows L2
/-- what a name of the module's level is worth -/
def NmV (mg : Str → Option Value) (n : Str) (u : Value) : Prop := mg n = some u ∨ (mg n = none ∧ bootBuiltins n = some u ∧ n ≠ "__name__")
/-- isinstance of an instance of the class C -/
structure KxC (K : PySem.W.Frag) (C : Addr) : Prop where
  hcl : (PySem.W.clsIn K C).isSome = true
  ha : PySem.W.findIn K (.ref C) "__class__" = some (some (.builtin "object.__class__"))
  hn : PySem.W.specialIn K (.builtin "object.__class__") "__get__" = some (some (.builtin "getset_descriptor.__get__"))
  ht : PySem.W.takesIn K (.builtin "object.__class__") = some true
  hm : PySem.W.mroIn K C (.type "object") = some true
/-- all that may be caught -/
structure TrOk (K : PySem.W.Frag) (mg : Str → Option Value) (t : Tri) : Prop where
  ex : ∃ c, NmV mg t.x c ∧ ∀ k anc, t.tab.lookup k = some anc → ∃ C, mg k = some (.ref C) ∧ XfC K C ∧ KxC K C ∧ PySem.W.exmOne K (.ref C) c = some (anc.contains t.x) ∧
    (∀ n ∈ t.ns, ∃ cv u, NmV mg n u ∧ ClsV cv u ∧ RelV cv u ∧ PySem.W.kitOne K (.ref C) u = some (anc.contains n)) ∧ ∀ f ∈ t.ats, PySem.W.findIn K (.ref C) f = some none
section
variable {X : Cx} {a C dx : Addr} {oe : Obj} {pn : List (Addr × Obj)} {fs : List (Str × V)}
theorem kit_exc (T : XfC X.K C) (k : KxC X.K C) (hz : Zc (.ref C) (some dx) oe) (hf : ∃ vs, oe.data = .fields vs) {pins : List (Addr × Obj)} {σ : L2.St} {H : Hp} {s : Shared} (I : Inv (X.suite a ((a, oe) :: pn)) pins σ H s) (e : H dx = some (.xd fs)) :
    ∃ od, PySem.W.KitX X.K (.ref a) (.ref C) (fun h => PySem.W.InstAt h a oe C (some od)) ∧ PySem.W.InstAt s.heap a oe C (some od) := by
  obtain ⟨hget, _⟩ := I.pin (a, oe) (List.mem_append.mpr (.inl List.mem_cons_self))
  obtain ⟨vs, hv⟩ := hf
  have hx : ObjOk X.prog X.w H s.heap dx (.xd fs) := I.hok dx _ e
  obtain ⟨mA, hns, hr⟩ := hx
  obtain ⟨od, ho, hl⟩ := lookIn_ns hns
  exact ⟨od, PySem.W.kitx_exc k.hcl T.ga T.gg T.exC k.ha k.hn k.ht k.hm, hget, hz.1, by unfold PySem.W.notCls; rw [hv] <;> rfl, by rw [hz.2]; exact ho⟩
/-- isinstance(e, c), isinstance(e, (c, ..)), e the exception that the suite holds -/
def rIsX (K : PySem.W.Frag) (C dx a : Addr) : List V → Hp → VK → Prop := fun xs H Q => (∃ fs, H dx = some (.xd fs)) ∧ ((∃ (c : V) (u : Value) (b : Bool), xs = [.ref a, c] ∧ ClsV c u ∧ PySem.W.kitOne K (.ref C) u = some b ∧ Q (.bl b) H) ∨
  (∃ (tp : Addr) (cs : List V) (us : List Value) (b : Bool), xs = [.ref a, .ref tp] ∧ H tp = some (.tup cs) ∧ Paired ClsV cs us ∧ PySem.W.kitAny K (.ref C) us = some b ∧ Q (.bl b) H))
theorem call_isX (T : XfC X.K C) (k : KxC X.K C) (hz : Zc (.ref C) (some dx) oe) (hf : ∃ vs, oe.data = .fields vs) : CallR (X.suite a ((a, oe) :: pn)) (.builtin "isinstance") (rIsX X.K C dx a) := by
  intro pins s σ H xs us Q I r h
  obtain ⟨⟨fs, ed⟩, h⟩ := h
  obtain ⟨od, KX, J⟩ := kit_exc T k hz hf I ed
  rcases h with ⟨c, u, b, rfl, cl, e, q⟩ | ⟨tp, cs, ws, b, rfl, hT, cl, e, q⟩
  · obtain ⟨u1, u2, rfl, r1, r2⟩ := vals2 r
    cases (show u1 = Value.ref a from r1)
    have e2 := cl.eq r2
    subst e2
    exact PySem.W.kia_one KX I.kIn J e (fun z => nomatch z) fun tk => ⟨.bl b, H, I.tok tk, rfl, q⟩
  · obtain ⟨u1, u2, rfl, r1, r2⟩ := vals2 r
    cases (show u1 = Value.ref a from r1)
    cases (show u2 = Value.ref tp from r2)
    obtain ⟨_, its, rv, o, h1, h2, n, h3⟩ := (show ObjOk X.prog X.w H s.heap tp (.tup cs) from I.hok tp _ hT)
    have e3 := ClsV.all cl rv
    subst e3
    obtain ⟨oc, od, dt, sl⟩ := o
    simp only at h2 h3
    subst h2 h3
    exact PySem.W.kia_tup KX I.kIn J h1 e (fun z => nomatch z) fun tk => ⟨.bl b, H, I.tok tk, rfl, q⟩
end
/-- what is known in a suite -/
structure Ct (X : Cc) (Z : Spc) (t : Tri) (i : Option Nat) (a C dx : Addr) (B : Addr → Prop) (e : Er) (anc : List Str) (σ : L2.St) (H : Hp) : Prop where
  sl : ∀ j, i = some j → σ[j]? = some (some (.ref a))
  mg : X.mg (S e.cls) = some (.ref C)
  fs : ∃ fs : List (Str × V), H dx = some (.xd fs) ∧ fs.map (·.1) = e.nms.map S ∧ DenL X.K Z.r H B (fs.map (·.2)) e.args
  tb : t.tab.lookup (S e.cls) = some anc
  bok : BOk B H
theorem bok_same {B : Addr → Prop} {H H1 : Hp} (b : BOk B H) (s : Same H H1) : BOk B H1 := fun a h => by
  obtain ⟨ob, e, m⟩ := b a h
  exact ⟨ob, s a ob e, m⟩
theorem Ct.same {X : Cc} {Z : Spc} {t : Tri} {i : Option Nat} {a C dx : Addr} {B : Addr → Prop} {e : Er} {anc : List Str} {σ : L2.St} {H H1 : Hp} (c : Ct X Z t i a C dx B e anc σ H) (s : Same H H1) : Ct X Z t i a C dx B e anc σ H1 := by
  obtain ⟨fs, f1, f2, f3⟩ := c.fs
  exact ⟨c.sl, c.mg, ⟨fs, s dx _ f1, f2, DenL.fr (sameFr s) c.bok _ _ f3⟩, c.tb, bok_same c.bok s⟩
theorem look_at {K : PySem.W.Frag} {r : Addr} {H : Hp} {B : Addr → Prop} {f : Str} : ∀ {fs : List (Str × V)} {ns : List (List Nat)} {ds : List D} {d : D}, fs.map (·.1) = ns.map S → DenL K r H B (fs.map (·.2)) ds → lookE f ns ds = some d → ∃ v, fs.lookup f = some v ∧ Den K r H B v d
  | [], [], _, _, _, _, h => by simp [lookE] at h
  | [], _ :: _, _, _, e, _, _ => by simp at e
  | _ :: _, [], _, _, e, _, _ => by simp at e
  | (x, v) :: fs, n :: ns, ds, d, e, h, l => by
    simp only [List.map_cons, List.cons.injEq] at e h
    cases h with
    | cons h1 h2 =>
      unfold lookE at l
      rw [List.lookup_cons]
      by_cases q : f = S n
      · rw [if_pos q] at l
        cases l
        rw [e.1, show (f == S n) = true from by simp [q]]
        exact ⟨_, rfl, h1⟩
      · rw [if_neg q] at l
        rw [e.1, show (f == S n) = false from by simp [q]]
        exact look_at e.2 h2 l
theorem pssT_mono {X : Cx} {q : List Stmt} {t u : TS} (h : PSs X q t) (k : ∀ D σ H, u D σ H → t D σ H) : PSs X q u := ⟨fun pins s σ H D I w => h.run pins s σ H D I (k D σ H w)⟩
section
variable {X : Cx} {Z : Spc} {t : Tri} {i : Option Nat} {a C dx : Addr} {oe : Obj} {pn : List (Addr × Obj)} {sc : Scope} {v : Option Str}
/-- what the walk through a suite stands on -/
structure SuOk (X : Cx) (t : Tri) (i : Option Nat) (C dx : Addr) (oe : Obj) (anc : List Str) (sc : Scope) (v : Option Str) : Prop where
  esc : X.env.scope = sc
  iso : X.mg "isinstance" = none
  T : XfC X.K C
  kx : KxC X.K C
  ns : ∀ n ∈ t.ns, ∃ cv u, NmV X.mg n u ∧ ClsV cv u ∧ RelV cv u ∧ PySem.W.kitOne X.K (.ref C) u = some (anc.contains n)
  ats : ∀ f ∈ t.ats, PySem.W.findIn X.K (.ref C) f = some none
  hz : Zc (.ref C) (some dx) oe
  hf : ∃ vs, oe.data = .fields vs
  nm : ∀ n, v = some n → ∃ j, i = some j ∧ X.N[j]? = some n ∧ sc.names.lookup n = some .local ∧ (n == ("__debug__" : Str)) = false ∧ (n == ("__classdict__" : Str)) = false
def tEx (X : Cc) (Z : Spc) (t : Tri) (i : Option Nat) (a C dx : Addr) (anc : List Str) (m : Er → Option D) : TE := fun σ H Q => ∃ B e d, Ct X Z t i a C dx B e anc σ H ∧ m e = some d ∧ ∀ v H1, Same H H1 → Den X.K Z.r H1 B v d → Q v H1
def tExs (X : Cc) (Z : Spc) (t : Tri) (i : Option Nat) (a C dx : Addr) (anc : List Str) (m : Er → Option (List D)) : TA := fun σ H Q => ∃ B e d, Ct X Z t i a C dx B e anc σ H ∧ m e = some d ∧ ∀ v H1, Same H H1 → DenL X.K Z.r H1 B v d → Q v H1
def tEt (X : Cc) (Z : Spc) (t : Tri) (i : Option Nat) (a C dx : Addr) (anc : List Str) (b : Bool) : TT := fun σ H Q => ∃ B e, Ct X Z t i a C dx B e anc σ H ∧ ∀ H1, Same H H1 → Q b H1
variable {anc : List Str}
theorem gl_of (O : X.env.scope = sc) {x : Str} (h : mGlo sc x = true) : Gl X x ∧ (x == ("__debug__" : Str)) = false ∧ x ≠ ("__name__" : Str) := by
  unfold mGlo at h
  simp only [Bool.and_eq_true, decide_eq_true_eq, Bool.not_eq_true'] at h
  refine ⟨?_, h.2.1, h.2.2⟩
  show X.env.scope.names.lookup x = _
  rw [O]; exact h.1
theorem pe_ex (O : SuOk X t i C dx oe anc sc v) {q : Expr} (h : mEx v q = true) : PE (X.suite a ((a, oe) :: pn)) q (fun σ H Q => (∃ B e, Ct (cc X) Z t i a C dx B e anc σ H) ∧ Q (.ref a) H) ∧ plainE q = true ∧ ∃ y p, q = .Name y p := by
  unfold mEx at h
  split at h
  · rename_i y p
    have h := of_decide_eq_true h
    obtain ⟨j, j1, j2, j3, j4, j5⟩ := O.nm y h
    refine ⟨pe_mono (pe_var (i := j) j2 (.inl (by show X.env.scope.names.lookup y = _; rw [O.esc]; exact j3)) j4 j5) fun σ H Q ⟨⟨B, e, c⟩, q⟩ => ⟨_, c.sl j j1, q⟩, rfl, _, _, rfl⟩
  · cases h
theorem pe_nm {x : Str} {u : Value} {w : V} {pos : Pos} (O : X.env.scope = sc) (h : mGlo sc x = true) (n : NmV X.mg x u) (r : RelV w u) : PE (X.suite a ((a, oe) :: pn)) (.Name x pos) (tC w) := by
  obtain ⟨g1, g2, g3⟩ := gl_of O h
  rcases n with n | ⟨n1, n2, n3⟩
  · exact pe_glob (X := X.suite a ((a, oe) :: pn)) g1 n r g2
  · exact pe_bltn (X := X.suite a ((a, oe) :: pn)) g1 n1 n2 r g3 g2
theorem pa_cls (O : SuOk X t i C dx oe anc sc v) : ∀ (ns : List Str) (es : List Expr), (∀ n ∈ ns, n ∈ t.ns) → mCls sc ns es = true → ∃ cs us, PA (X.suite a ((a, oe) :: pn)) es (fun σ H Q => Q cs H) ∧ (∀ e ∈ es, plainE e = true) ∧ Paired ClsV cs us ∧ cs.length = ns.length ∧ PySem.W.kitAny X.K (.ref C) us = some (ns.any fun n => anc.contains n) ∧ (∀ n, ns = [n] → ∃ c u, cs = [c] ∧ ClsV c u ∧ PySem.W.kitOne X.K (.ref C) u = some (anc.contains n))
  | [], [], _, _ => ⟨[], [], pa_mono pa_nil fun _ _ _ h => h, by simp, .nil, rfl, rfl, fun n z => by cases z⟩
  | [], _ :: _, _, h => by simp [mCls] at h
  | _ :: _, [], _, h => by simp [mCls] at h
  | n :: ns, e :: es, hn, h => by
    cases e with
    | Name y pos =>
      simp only [mCls, Bool.and_eq_true, decide_eq_true_eq] at h
      obtain ⟨rfl, h1, h2⟩ := h
      obtain ⟨cv, u, k1, k2, k3, k4⟩ := O.ns n (hn n List.mem_cons_self)
      obtain ⟨cs, us, i1, i2, i3, i4, i5, i6⟩ := pa_cls O ns es (fun m hm => hn m (List.mem_cons_of_mem _ hm)) h2
      refine ⟨cv :: cs, u :: us, pa_mono (pa_cons (pe_nm O.esc h1 k1 k3) i1) fun _ _ _ h => h, fun x hx => ?_, .cons k2 i3, by simp [i4], ?_, fun m z => ?_⟩
      · rcases List.mem_cons.mp hx with rfl | hx
        · rfl
        · exact i2 x hx
      · refine kitAny_cons k4 (fun z => ?_) (fun z => ?_)
        · rw [i5, List.any_cons, z, Bool.false_or]
        · rw [List.any_cons, z, Bool.true_or]
      · simp only [List.cons.injEq] at z
        obtain ⟨rfl, rfl⟩ := z
        have : cs = [] := List.eq_nil_of_length_eq_zero i4
        exact ⟨cv, u, by rw [this], k2, k4⟩
    | _ => simp [mCls] at h
/-- isinstance(e, ..) -/
theorem pe_is (O : SuOk X t i C dx oe anc sc v) {ns : List Str} {one : Bool} {q : Expr} (hn : ∀ n ∈ ns, n ∈ t.ns) (h : mIs sc v ns one q = true) : PE (X.suite a ((a, oe) :: pn)) q (tEx (cc X) Z t i a C dx anc fun _ => some (.bl (ns.any fun n => anc.contains n))) ∧ ∃ y p as pos, q = .Call (.Name y p) as [] pos := by
  unfold mIs at h
  split at h
  · rename_i y py av c pos
    simp only [Bool.and_eq_true, decide_eq_true_eq] at h
    obtain ⟨rfl, h1, h2, hl, h3⟩ := h
    obtain ⟨g1, g2, g3⟩ := gl_of O.esc h1
    obtain ⟨e1, e2, y1, p1, rfl⟩ := pe_ex (Z := Z) (a := a) (pn := pn) O h2
    refine ⟨?_, _, _, _, _, rfl⟩
    cases one with
    | true =>
      rw [if_pos rfl] at h3
      obtain ⟨cs, us, i1, i2, i3, i4, i5, i6⟩ := pa_cls (a := a) (pn := pn) O ns [c] hn h3
      have ⟨n, en⟩ : ∃ n, ns = [n] := by
        cases ns with
        | nil => simp [mCls] at h3
        | cons n ns =>
          cases ns with
          | nil => exact ⟨n, rfl⟩
          | cons m ns => cases c <;> simp [mCls] at h3
      obtain ⟨cv, u, rfl, k1, k2⟩ := i6 n en
      refine pe_mono (pe_callB (X := X.suite a ((a, oe) :: pn)) (call_isX O.T O.kx O.hz O.hf) g1 O.iso PyProof.Rows.boot_isinstance (pa_cons e1 i1 (star_cons rfl)) (by decide) (by decide) (star_cons rfl) (star_any i2)) fun σ H Q ⟨B, e, d, ct, ed, k⟩ => ?_
      cases ed
      obtain ⟨fs, f1, _⟩ := ct.fs
      exact ⟨⟨B, e, ct⟩, ⟨fs, f1⟩, .inl ⟨cv, u, _, rfl, k1, k2, by
        have := k (.bl (ns.any fun n => anc.contains n)) H (Same.refl H) (.bl _)
        rw [en] at this
        simpa using this⟩⟩
    | false =>
      rw [if_neg Bool.false_ne_true] at h3
      split at h3
      · rename_i kk cs0 tp tq
        obtain ⟨cs, us, i1, i2, i3, i4, i5, i6⟩ := pa_cls (a := a) (pn := pn) O ns cs0 hn h3
        refine pe_mono (pe_callB (X := X.suite a ((a, oe) :: pn)) (call_isX O.T O.kx O.hz O.hf) g1 O.iso PyProof.Rows.boot_isinstance (pa_cons e1 (pa_cons (pe_tup i1) pa_nil (star_cons rfl)) (star_cons rfl)) (by decide) (by decide) (star_cons rfl) (star_any (by simp [plainE]))) fun σ H Q ⟨B, e, d, ct, ed, k⟩ => ?_
        cases ed
        obtain ⟨fs, f1, _⟩ := ct.fs
        exact ⟨⟨B, e, ct⟩, by rw [i4, ← line_eq]; unfold line; omega, fun pp np => ⟨⟨fs, same_upd np _ _ f1⟩, .inr ⟨pp, cs, us, _, rfl, upd_same, i3, i5, k _ _ (same_upd np) (.bl _)⟩⟩⟩
      · cases h3
  · cases h

theorem hvs_len {e : Er} : ∀ (es : HEs) (as : List Expr) (ds : List D), mHEs sc v es as = true → hvs anc e es = some ds → ds.length = as.length
  | .nil, [], ds, _, h => by unfold hvs at h; cases h; rfl
  | .nil, _ :: _, _, h, _ => by simp [mHEs] at h
  | .cons _ _, [], _, h, _ => by simp [mHEs] at h
  | .cons x es, a :: as, ds, h, q => by
    simp only [mHEs, Bool.and_eq_true] at h
    unfold hvs at q
    obtain ⟨d, e1, q⟩ := Option.bind_eq_some_iff.mp q
    obtain ⟨ds', e2, rfl⟩ := Option.map_eq_some_iff.mp q
    simp [hvs_len es as ds' h.2 e2]
mutual
theorem he_pe (O : SuOk X t i C dx oe anc sc v) : ∀ (h : HE) (q : Expr), (∀ n ∈ h.ns, n ∈ t.ns) → (∀ f ∈ h.ats, f ∈ t.ats) → mHE sc v h q = true → PE (X.suite a ((a, oe) :: pn)) q (tEx (cc X) Z t i a C dx anc fun e => hv anc e h) ∧ plainE q = true
  | .con c, q, hn, ha, h => by
    unfold mHE at h
    split at h
    · rename_i c' kk pos
      have h := of_decide_eq_true h
      subst h
      refine ⟨?_, rfl⟩
      cases c with
      | none =>
        refine pe_mono pe_non fun σ H Q ⟨B, e, d, ct, ed, k⟩ => ?_
        simp only [hv, conE, Option.some.injEq] at ed
        subst ed
        exact k _ H (Same.refl H) .non
      | bool b =>
        refine pe_mono pe_bl fun σ H Q ⟨B, e, d, ct, ed, k⟩ => ?_
        simp only [hv, conE, Option.some.injEq] at ed
        subst ed
        exact k _ H (Same.refl H) (.bl b)
      | int j =>
        refine pe_mono pe_int fun σ H Q ⟨B, e, d, ct, ed, k⟩ => ?_
        simp only [hv, conE, Option.some.injEq] at ed
        subst ed
        exact k _ H (Same.refl H) (.int j)
      | str x =>
        refine pe_mono pe_str fun σ H Q ⟨B, e, d, ct, ed, k⟩ => ?_
        simp only [hv, conE, Option.some.injEq] at ed
        subst ed
        have := Den.str (K := X.K) (r := Z.r) (H := H) (B := B) x.cps.toList
        rw [S_of] at this
        exact k _ H (Same.refl H) this
      | _ => exact ⟨fun pins s σ H Q I ⟨B, e, d, ct, ed, k⟩ => by simp [hv, conE] at ed⟩
    · cases h
  | .at f, q, hn, ha, h => by
    unfold mHE at h
    split at h
    · rename_i b g pos
      simp only [Bool.and_eq_true, decide_eq_true_eq] at h
      obtain ⟨h1, rfl⟩ := h
      obtain ⟨e1, e2, y, p, rfl⟩ := pe_ex (Z := Z) (a := a) (pn := pn) O h1
      refine ⟨pe_mono (pe_xf O.T (O.ats f (ha f (by simp [HE.ats]))) O.hz O.hf e1) fun σ H Q ⟨B, e, d, ct, ed, k⟩ => ?_, rfl⟩
      obtain ⟨fs, f1, f2, f3⟩ := ct.fs
      simp only [hv] at ed
      obtain ⟨w, w1, w2⟩ := look_at f2 f3 ed
      exact ⟨⟨B, e, ct⟩, rfl, rfl, dx, fs, w, rfl, f1, w1, k w H (Same.refl H) w2⟩
    · cases h
  | .isi ns one, q, hn, ha, h => by
    unfold mHE at h
    obtain ⟨e1, y, p, as, pos, rfl⟩ := pe_is (Z := Z) (a := a) (pn := pn) O (fun n m => hn n (by simpa [HE.ns] using m)) h
    refine ⟨pe_mono e1 fun σ H Q ⟨B, e, d, ct, ed, k⟩ => ⟨B, e, d, ct, by simpa only [hv] using ed, k⟩, ?_⟩
    unfold mIs at h
    split at h
    · rename_i he
      cases he
      rfl
    · cases h
  | .tup es, q, hn, ha, h => by
    unfold mHE at h
    split at h
    · rename_i vs kk pos
      simp only [Bool.and_eq_true, decide_eq_true_eq] at h
      obtain ⟨hl, h⟩ := h
      refine ⟨pe_mono (pe_tup (hes_pa O es vs (fun n m => hn n (by simpa [HE.ns] using m)) (fun n m => ha n (by simpa [HE.ats] using m)) h)) fun σ H Q ⟨B, e, d, ct, ed, k⟩ => ?_, rfl⟩
      simp only [hv] at ed
      obtain ⟨ds, e1, rfl⟩ := Option.map_eq_some_iff.mp ed
      refine ⟨B, e, ds, ct, e1, fun us H1 s1 n1 => ⟨?_, fun pp np => ?_⟩⟩
      · rw [n1.length, hvs_len es vs ds h e1, ← line_eq]
        unfold line; omega
      · exact k _ _ (s1.trans (same_upd np)) (den_newT (bok_same ct.bok s1) np n1)
    · cases h
theorem hes_pa (O : SuOk X t i C dx oe anc sc v) : ∀ (h : HEs) (q : List Expr), (∀ n ∈ h.ns, n ∈ t.ns) → (∀ f ∈ h.ats, f ∈ t.ats) → mHEs sc v h q = true → PA (X.suite a ((a, oe) :: pn)) q (tExs (cc X) Z t i a C dx anc fun e => hvs anc e h)
  | .nil, [], _, _, _ => pa_mono pa_nil fun σ H Q ⟨B, e, d, ct, ed, k⟩ => by
    simp only [hvs, Option.some.injEq] at ed
    subst ed
    exact k _ H (Same.refl H) .nil
  | .nil, _ :: _, _, _, h => by simp [mHEs] at h
  | .cons _ _, [], _, _, h => by simp [mHEs] at h
  | .cons x es, b :: bs, hn, ha, h => by
    simp only [mHEs, Bool.and_eq_true] at h
    obtain ⟨e1, e2⟩ := he_pe O x b (fun n m => hn n (by simp [HEs.ns, m])) (fun n m => ha n (by simp [HEs.ats, m])) h.1
    refine pa_mono (pa_cons e1 (hes_pa O es bs (fun n m => hn n (by simp [HEs.ns, m])) (fun n m => ha n (by simp [HEs.ats, m])) h.2) (star_cons e2)) fun σ H Q ⟨B, e, d, ct, ed, k⟩ => ?_
    unfold hvs at ed
    obtain ⟨d1, q1, ed⟩ := Option.bind_eq_some_iff.mp ed
    obtain ⟨ds, q2, rfl⟩ := Option.map_eq_some_iff.mp ed
    exact ⟨B, e, d1, ct, q1, fun v1 H1 s1 n1 => ⟨B, e, ds, ct.same s1, q2, fun vs H2 s2 n2 => k _ H2 (s1.trans s2) (.cons (Den.fr (sameFr s2) (bok_same ct.bok s1) _ _ n1) n2)⟩⟩
end
mutual
theorem ht_pt (O : SuOk X t i C dx oe anc sc v) : ∀ (h : HT) (q : Expr), (∀ n ∈ h.ns, n ∈ t.ns) → mHT sc v h q = true → PT (X.suite a ((a, oe) :: pn)) q (tEt (cc X) Z t i a C dx anc (ht anc h))
  | .isi ns one, q, hn, h => by
    unfold mHT at h
    obtain ⟨e1, y, p, as, pos, rfl⟩ := pe_is (Z := Z) (a := a) (pn := pn) O (fun n m => hn n (by simpa [HT.ns] using m)) h
    refine pt_mono (pt_val e1) fun σ H Q ⟨B, e, ct, k⟩ => ⟨B, e, _, ct, rfl, fun w H1 s1 n1 => ?_⟩
    cases n1
    exact ⟨_, rfl, by have := k H1 s1; simpa only [ht] using this⟩
  | .nt b, q, hn, h => by
    unfold mHT at h
    split at h
    · rename_i x pos
      refine pt_mono (pt_not (ht_pt O b x (fun n m => hn n (by simpa [HT.ns] using m)) h)) fun σ H Q ⟨B, e, ct, k⟩ => ⟨B, e, ct, fun H1 s1 => ?_⟩
      have := k H1 s1
      simpa only [ht] using this
    · cases h
  | .and ts, q, hn, h => by
    unfold mHT at h
    split at h
    · exact pt_mono (PW.pt (htA_pw O ts _ _ (fun n m => hn n (by simpa [HT.ns] using m)) h)) fun σ H Q z => by simpa only [ht] using z
    · cases h
  | .or ts, q, hn, h => by
    unfold mHT at h
    split at h
    · exact pt_mono (PW.pt (htO_pw O ts _ _ (fun n m => hn n (by simpa [HT.ns] using m)) h)) fun σ H Q z => by simpa only [ht] using z
    · cases h
theorem htA_pw (O : SuOk X t i C dx oe anc sc v) : ∀ (h : HTs) (q : List Expr) (pos : Pos), (∀ n ∈ h.ns, n ∈ t.ns) → mHTs sc v h q = true → PW (X.suite a ((a, oe) :: pn)) (.BoolOp .And q pos) (tEt (cc X) Z t i a C dx anc (htA anc h))
  | .nil, q, pos, hn, h => by cases q <;> simp [mHTs] at h
  | .cons x .nil, [], pos, hn, h => by simp [mHTs] at h
  | .cons x .nil, [b], pos, hn, h => by
    simp only [mHTs] at h
    refine pw_mono (pw_and1 (ht_pt O x b (fun n m => hn n (by simp [HTs.ns, m])) h)) fun σ H Q z => ?_
    simpa only [htA, Bool.and_true] using z
  | .cons x .nil, _ :: _ :: _, pos, hn, h => by simp [mHTs] at h
  | .cons x (.cons y es), [], pos, hn, h => by simp [mHTs] at h
  | .cons x (.cons y es), [_], pos, hn, h => by simp [mHTs] at h
  | .cons x (.cons y es), b :: c :: bs, pos, hn, h => by
    simp only [mHTs, Bool.and_eq_true] at h
    refine pw_mono (pw_and (ht_pt O x b (fun n m => hn n (by simp [HTs.ns, m])) h.1) (htA_pw O (.cons y es) (c :: bs) pos (fun n m => hn n (by rw [HTs.ns, List.mem_append]; exact .inr m)) h.2)) fun σ H Q ⟨B, e, ct, k⟩ => ⟨B, e, ct, fun H1 s1 => ?_⟩
    rw [htA] at k
    by_cases hb : ht anc x = true
    · rw [if_pos hb]
      rw [hb, Bool.true_and] at k
      exact ⟨B, e, ct.same s1, fun H2 s2 => k H2 (s1.trans s2)⟩
    · rw [if_neg hb]
      simp only [Bool.not_eq_true] at hb
      rw [hb, Bool.false_and] at k
      exact k H1 s1
theorem htO_pw (O : SuOk X t i C dx oe anc sc v) : ∀ (h : HTs) (q : List Expr) (pos : Pos), (∀ n ∈ h.ns, n ∈ t.ns) → mHTs sc v h q = true → PW (X.suite a ((a, oe) :: pn)) (.BoolOp .Or q pos) (tEt (cc X) Z t i a C dx anc (htO anc h))
  | .nil, q, pos, hn, h => by cases q <;> simp [mHTs] at h
  | .cons x .nil, [], pos, hn, h => by simp [mHTs] at h
  | .cons x .nil, [b], pos, hn, h => by
    simp only [mHTs] at h
    refine pw_mono (pw_or1 (ht_pt O x b (fun n m => hn n (by simp [HTs.ns, m])) h)) fun σ H Q z => ?_
    simpa only [htO, Bool.or_false] using z
  | .cons x .nil, _ :: _ :: _, pos, hn, h => by simp [mHTs] at h
  | .cons x (.cons y es), [], pos, hn, h => by simp [mHTs] at h
  | .cons x (.cons y es), [_], pos, hn, h => by simp [mHTs] at h
  | .cons x (.cons y es), b :: c :: bs, pos, hn, h => by
    simp only [mHTs, Bool.and_eq_true] at h
    refine pw_mono (pw_or (ht_pt O x b (fun n m => hn n (by simp [HTs.ns, m])) h.1) (htO_pw O (.cons y es) (c :: bs) pos (fun n m => hn n (by rw [HTs.ns, List.mem_append]; exact .inr m)) h.2)) fun σ H Q ⟨B, e, ct, k⟩ => ⟨B, e, ct, fun H1 s1 => ?_⟩
    rw [htO] at k
    by_cases hb : ht anc x = true
    · rw [if_pos hb]
      rw [hb, Bool.true_or] at k
      exact k H1 s1
    · rw [if_neg hb]
      simp only [Bool.not_eq_true] at hb
      rw [hb, Bool.false_or] at k
      exact ⟨B, e, ct.same s1, fun H2 s2 => k H2 (s1.trans s2)⟩
end
/-- what a suite wishes -/
def tSu (X : Cc) (Z : Spc) (t : Tri) (i : Option Nat) (a C dx : Addr) (anc : List Str) (h : HS) : TS := fun D σ H => ∃ B e d, Ct X Z t i a C dx B e anc σ H ∧ hs anc e h = some d ∧ ∀ v H1, Same H H1 → Den X.K Z.r H1 B v d → D.rt v H1
theorem hs_ps (O : SuOk X t i C dx oe anc sc v) : ∀ (h : HS) (q : List Stmt), (∀ n ∈ h.ns, n ∈ t.ns) → (∀ f ∈ h.ats, f ∈ t.ats) → mHS sc v h q = true → PSs (X.suite a ((a, oe) :: pn)) q (tSu (cc X) Z t i a C dx anc h)
  | .ret e, q, hn, ha, h => by
    unfold mHS at h
    split at h
    · rename_i b pos
      obtain ⟨e1, _⟩ := he_pe (Z := Z) (a := a) (pn := pn) O e b (fun n m => hn n (by simpa [HS.ns] using m)) (fun n m => ha n (by simpa [HS.ats] using m)) h
      refine pssT_mono (pss_cons (ps_ret e1) pss_nil) fun E σ H ⟨B, e, d, ct, ed, k⟩ => ?_
      exact ⟨B, e, d, ct, by simpa only [hs] using ed, k⟩
    · cases h
  | .ife x b r, q, hn, ha, h => by
    unfold mHS at h
    split at h
    · rename_i c b' pos pos2 rest
      simp only [Bool.and_eq_true] at h
      obtain ⟨h1, h2, h3⟩ := h
      have e0 := ht_pt (Z := Z) (a := a) (pn := pn) O x c (fun n m => hn n (by simp [HS.ns, m])) h1
      obtain ⟨e1, _⟩ := he_pe (Z := Z) (a := a) (pn := pn) O b b' (fun n m => hn n (by simp [HS.ns, m])) (fun n m => ha n (by simp [HS.ats, m])) h2
      have e2 := hs_ps O r rest (fun n m => hn n (by simp [HS.ns, m])) (fun n m => ha n (by simp [HS.ats, m])) h3
      refine pssT_mono (pss_cons (ps_if e0 (pss_cons (ps_ret e1) pss_nil) pss_nil) e2) fun E σ H ⟨B, e, d, ct, ed, k⟩ => ?_
      refine ⟨B, e, ct, fun H1 s1 => ?_⟩
      unfold hs at ed
      by_cases hb : ht anc x = true
      · rw [if_pos hb] at ed ⊢
        exact ⟨B, e, d, ct.same s1, ed, fun w H2 s2 n => k w H2 (s1.trans s2) n⟩
      · rw [if_neg hb] at ed ⊢
        exact ⟨B, e, d, ct.same s1, ed, fun w H2 s2 n => k w H2 (s1.trans s2) n⟩
    · cases h
end
/-- all that is raised and caught is known, and there is room for it -/
structure Rv (X : Cx) (k : Nat) (rs : List (Str × List Str)) (ts : List Tri) : Prop where
  r : ∀ p ∈ rs, RsX X p
  k : rs ≠ [] → 2 ≤ k
  t : ∀ p ∈ ts, TrOk X.K X.mg p
theorem Rv.l {X : Cx} {k : Nat} {a b : List (Str × List Str)} {c d : List Tri} (h : Rv X k (a ++ b) (c ++ d)) : Rv X k a c := ⟨fun p hp => h.r p (List.mem_append_left _ hp), fun z => h.k (by simp [z]), fun p hp => h.t p (List.mem_append_left _ hp)⟩
theorem Rv.r' {X : Cx} {k : Nat} {a b : List (Str × List Str)} {c d : List Tri} (h : Rv X k (a ++ b) (c ++ d)) : Rv X k b d := ⟨fun p hp => h.r p (List.mem_append_right _ hp), fun z => h.k (by simp [z]), fun p hp => h.t p (List.mem_append_right _ hp)⟩
theorem Rv.tail {X : Cx} {k : Nat} {a : List (Str × List Str)} {c : Tri} {d : List Tri} (h : Rv X k a (c :: d)) : Rv X k a d := ⟨h.r, h.k, fun p hp => h.t p (List.mem_cons_of_mem _ hp)⟩
/-- what the frame of a def is like -/
structure Pz (X : Cx) : Prop where
  p : PassesOwn (model X.prog X.w) X.A X.env X.xe
  s : X.stack = X.env :: X.outer
  f : X.env.frame = some X.env.locals
end TI
set_option Elab.async false
set_option linter.all false
set_option maxRecDepth 100000
set_option maxHeartbeats 8000000
namespace TI
open PySem PySem.Spec PyProof.Rows L2
theorem ps_mono {X : Cx} {s : Stmt} {t u : TS} (h : PS X s t) (k : ∀ D σ H, u D σ H → t D σ H) : PS X s u := ⟨fun pins s σ H D I q => h.run pins s σ H D I (k D σ H q)⟩
theorem pss_mono {X : Cx} {s : List Stmt} {t u : TS} (h : PSs X s t) (k : ∀ D σ H, u D σ H → t D σ H) : PSs X s u := ⟨fun pins s σ H D I q => h.run pins s σ H D I (k D σ H q)⟩
theorem no_swap {e : Expr} (h : noComp e = true) (tg : Option Expr) (l : Nat) (env : Env) : swapsWith e tg l env = pure false := by
  cases e <;> first | rfl | cases h
theorem no_swap_sub (e : Expr) (o i : Expr) (p : Pos) (l : Nat) (env : Env) : swapsWith e (some (.Subscript o i p)) l env = pure false := by
  cases e <;> rfl
theorem no_stores {tg e : Expr} (h : isTup e = false) (env : Env) : swappedStores [tg] e env = pure none := by
  cases e <;> first | cases h; done | (cases tg <;> rfl)
theorem isC_eq {e : Ex} (h : e.isC = true) : ∃ tg it c e' own, e = .comp tg it c e' own := by
  cases e <;> first | exact ⟨_, _, _, _, _, rfl⟩ | cases h
section
variable {X : Cx} {Z : Spc} {W : WX} {k : Nat} {sc : Scope}
theorem nm_loc (O : XOk X Z W k sc) {i : Nat} {x : Str} (h : mNm X.N sc i x = true) (hf : ∀ x, sc.names.lookup x = some .cell → X.fn x = true) : X.N[i]? = some x ∧ L2.Loc X.env.scope x ∧ (X.fn x = true ∨ X.env.scope.names.lookup x = some .local) ∧ i < X.N.length := by
  unfold mNm at h
  simp only [Bool.and_eq_true, Bool.or_eq_true, decide_eq_true_eq] at h
  refine ⟨h.1, ?_, ?_, (List.getElem?_eq_some_iff.mp h.1).1⟩
  · show X.env.scope.names.lookup _ = _ ∨ X.env.scope.names.lookup _ = _
    rw [O.sc]
    rcases h.2 with q | q
    · exact .inl q
    · exact .inr q
  · rw [O.sc]
    rcases h.2 with q | q
    · exact .inr q
    · exact .inl (hf x q)
theorem ps_setA (O : XOk X Z W k sc) (hf : ∀ x, sc.names.lookup x = some .cell → X.fn x = true) {e : Ex} {i : Nat} {x : Str} {v : Expr} {p pos : Pos} (cv : Cov X Z k e.calls e.globs) (h1 : mNm X.N sc i x = true) (h : mE X.N sc e v = true) (h2 : swOk sc x p v = true) (h9 : (noComp v || e.isC) = true) :
    PS X (.Assign [.Name x p] v pos) (tAsg (tM (cc X) Z W e.vs e.fresh (ev e)) (gName i)) := by
  obtain ⟨n1, n2, n3, n4⟩ := nm_loc O h1 hf
  by_cases hc : noComp v = true
  · exact ps_set O.nd n1 n2 (ex_pe e X W sc v O cv h) (no_swap hc _ _ _) n3
  · cases v with
    | ListComp elt gs scope cp =>
      obtain ⟨tg, it, c, e, own, rfl⟩ := isC_eq (show e.isC = true from by simpa [noComp] using h9)
      · unfold mE at h
        replace h := (Bool.and_eq_true_iff.mp h).2
        split at h
        · rename_i elt' t it' ifs z scope' cp' heq
          cases heq
          simp only [Bool.and_eq_true, decide_eq_true_eq] at h
          obtain ⟨rfl, hok, h1', h2', h3, h4, h5, h6⟩ := h
          have hw : ∀ i ∈ tg.ws, i ∈ own.map (·.2) := fun i hi => by
            have := List.all_eq_true.mp h4 i hi
            simpa using this
          unfold swOk at h2
          simp only [Bool.and_eq_true, decide_eq_true_eq, Bool.not_eq_true'] at h2
          obtain ⟨s1, s2, s3, s4⟩ := h2
          refine ps_mono (ps_setLc O.calm O.nd n1 (by rw [O.sc]; exact s1) (sw_true (by rw [O.sc]; exact s2) (by rw [O.sc]; exact s1) s3 s4) (it_pi it tg X W sc it' t O cv.l h1' hok (tg_tup hok h3)) (by rw [O.sc]; exact blkOk_by h2')
            (fun s H C cl fp => show PG _ t (gT X.K tg) from pg_of (X := X.blk s H scope (compEnvC scope cl C X.env) fp) (sc := scope) O.nd O.calm (fun x e => lookup_relS_keep (sc := X.env.scope) (by decide) e) (fun x e => ⟨lookup_relS_keep (sc := X.env.scope) (by decide) e, by show (scope.names.lookup x == some .cell) = true; rw [e]; rfl⟩) tg t h3)
            (fun s H C cl fp => show PTs _ ifs (tMB (cc X) Z W0 c.vs (evC c)) from op_pts c _ W0 (relS scope sc) ifs (O.blk s H C cl fp) cv.r.l.blk h5)
            (fun s H C cl fp => show PE _ elt (tM (cc X) Z W0 e.vs e.fresh (ev e)) from ex_pe e _ W0 (relS scope sc) elt (O.blk s H C cl fp) cv.r.r.blk h6)
            (mI_fold h1')) fun D σ H w => ?_
          exact lc_red (N := X.N) (sc' := scope) (tge := t) rfl h3 hw w
        · exact absurd h Bool.false_ne_true
    | SetComp _ _ _ _ => cases h2
    | DictComp _ _ _ _ _ => cases h2
    | _ => exact absurd rfl hc
end
mutual
theorem rel_bindT {X : Cc} {Z : Spc} {B : Addr → Prop} {H : Hp} {N : List Str} {sc : Scope} (hN : N.length = X.n) : ∀ (t : Tg) (d : D) (v : V) (ρ : List Sl) (σ : L2.St) (g : G) (o : Nat → List Addr) (ρ' : List Sl) (g' : G) (e : Expr) (Q : L2.St → Hp → Prop), mT N sc t e = true → Rel X Z B ρ σ g H o →
    bindT t d ρ g = .ok ρ' g' → Den X.K Z.r H (Cn B o) v d → (∀ σ' o', Rel X Z B ρ' σ' g' H o' → Stp Z H o H o' → (∀ a, Cn B o' a → Cn B o a) → Q σ' H) → gT X.K t v σ H Q
  | .nm i, d, v, ρ, σ, g, o, ρ', g', e, Q, hm, R, hb, hv, q => by
    unfold bindT at hb
    obtain ⟨rfl, rfl⟩ := pure_ok hb
    have hi : i < X.n := by
      cases e with
      | Name x pos =>
        simp only [mT, Bool.and_eq_true, decide_eq_true_eq] at hm
        rw [← hN]
        exact (List.getElem?_eq_some_iff.mp hm.1).1
      | _ => simp [mT] at hm
    obtain ⟨R1, S1⟩ := R.setV hi hv
    exact q _ _ R1 S1 fun a ha => by
      rcases ha with m | ⟨l, m⟩
      · exact .inl m
      · by_cases z : l = i
        · subst z; simp [uo] at m
        · simp only [uo, if_neg z] at m
          exact .inr ⟨l, m⟩
  | .tp ts, d, v, ρ, σ, g, o, ρ', g', e, Q, hm, R, hb, hv, q => by
    unfold bindT at hb
    split at hb
    · rename_i ds
      obtain ⟨a, vs, rfl, h1, h2⟩ := sqT_tup hv
      cases e with
      | Tuple es kk pos =>
        simp only [mT] at hm
        exact ⟨a, vs, rfl, SqT.of h1, h2.length.trans (bindTs_g ts ds ρ g ρ' g' hb).2, rel_bindTs hN ts ds vs ρ σ g o ρ' g' es Q hm R hb h2 q⟩
      | _ => simp [mT] at hm
    · exact (stk_ok hb).elim
theorem rel_bindTs {X : Cc} {Z : Spc} {B : Addr → Prop} {H : Hp} {N : List Str} {sc : Scope} (hN : N.length = X.n) : ∀ (ts : Tgs) (ds : List D) (vs : List V) (ρ : List Sl) (σ : L2.St) (g : G) (o : Nat → List Addr) (ρ' : List Sl) (g' : G) (es : List Expr) (Q : L2.St → Hp → Prop), mTs N sc ts es = true → Rel X Z B ρ σ g H o →
    bindTs ts ds ρ g = .ok ρ' g' → DenL X.K Z.r H (Cn B o) vs ds → (∀ σ' o', Rel X Z B ρ' σ' g' H o' → Stp Z H o H o' → (∀ a, Cn B o' a → Cn B o a) → Q σ' H) → gTs X.K ts vs σ H Q
  | .nil, [], vs, ρ, σ, g, o, ρ', g', es, Q, hm, R, hb, hv, q => by
    cases hv
    unfold bindTs at hb
    obtain ⟨rfl, rfl⟩ := pure_ok hb
    exact ⟨rfl, q σ o R (.refl R) fun a h => h⟩
  | .nil, _ :: _, vs, ρ, σ, g, o, ρ', g', es, Q, hm, R, hb, hv, q => by
    unfold bindTs at hb; exact (stk_ok hb).elim
  | .cons t ts, [], vs, ρ, σ, g, o, ρ', g', es, Q, hm, R, hb, hv, q => by
    unfold bindTs at hb; exact (stk_ok hb).elim
  | .cons t ts, d :: ds, vs, ρ, σ, g, o, ρ', g', es, Q, hm, R, hb, hv, q => by
    cases es with
    | nil => simp [mTs] at hm
    | cons e es =>
      simp only [mTs, Bool.and_eq_true] at hm
      unfold bindTs at hb
      obtain ⟨ρ1, g1, hb1, hb2⟩ := bind_ok hb
      cases hv with
      | cons h1 h2 =>
        rename_i v vs
        have eg := bindT_g t d ρ g ρ1 g1 hb1
        exact ⟨v, vs, rfl, rel_bindT hN t d v ρ σ g o ρ1 g1 e (fun σ1 H1 => gTs X.K ts vs σ1 H1 Q) hm.1 R hb1 h1 fun σ1 o1 R1 S1 c1 =>
          rel_bindTs hN ts ds vs ρ1 σ1 g1 o1 ρ' g' es Q hm.2 R1 hb2 (DenL.ban (fun a ob _ _ m z => m (c1 a z)) _ _ h2) fun σ' o' R2 S2 c2 => q σ' o' R2 (S1.trans S2) fun a h => c1 a (c2 a h)⟩
end
end TI
set_option Elab.async false
set_option linter.all false
set_option maxRecDepth 100000
set_option maxHeartbeats 8000000
namespace TI
open PySem PySem.Spec PyProof.Rows L2
section
variable {K : PySem.W.Frag} {r : Addr} {H : Hp} {C : Addr → Prop} {κ α : Type} [DecidableEq κ] [DecidableEq α] {f : α → κ} (inj : ∀ {a b : α}, f a = f b → a = b)
include inj
theorem put_any {k : α} : ∀ {kvs : List (κ × V)} {ks : List α}, kvs.map (·.1) = ks.map f → (kvs.any fun kv => decide (kv.1 = f k)) = memA k ks
  | [], [], _ => rfl
  | [], _ :: _, h => by simp at h
  | _ :: _, [], h => by simp at h
  | p :: kvs, a :: ks, h => by
    simp only [List.map_cons, List.cons.injEq] at h
    have ih := put_any (k := k) h.2
    unfold memA at ih ⊢
    simp only [List.any_cons, ih, h.1]
    congr 1
    by_cases e : a = k
    · subst e; simp
    · have : ¬ f a = f k := fun z => e (inj z)
      simp [e, this]
theorem put_rep {k : α} {v : V} {d : D} (n : Den K r H C v d) : ∀ {kvs : List (κ × V)} {ks : List α} {ds : List D}, kvs.map (·.1) = ks.map f → DenL K r H C (kvs.map (·.2)) ds →
    (kvs.map (fun kv => if kv.1 = f k then (kv.1, v) else kv)).map (·.1) = ks.map f ∧ DenL K r H C ((kvs.map (fun kv => if kv.1 = f k then (kv.1, v) else kv)).map (·.2)) (repA k d ks ds)
  | [], [], ds, _, h => ⟨rfl, by cases h; exact .nil⟩
  | [], _ :: _, _, h, _ => by simp at h
  | _ :: _, [], _, h, _ => by simp at h
  | p :: kvs, a :: ks, ds, h, l => by
    simp only [List.map_cons, List.cons.injEq] at h
    cases l with
    | cons l1 l2 =>
      obtain ⟨i1, i2⟩ := put_rep (k := k) n h.2 l2
      simp only [List.map_cons, repA]
      by_cases e : a = k
      · subst e
        rw [if_pos h.1, if_pos rfl]
        exact ⟨by rw [i1]; simp [h.1], .cons n i2⟩
      · have : ¬ p.1 = f k := fun z => e (inj (h.1.symm.trans z))
        rw [if_neg this, if_neg e]
        exact ⟨by rw [i1]; simp [h.1], .cons l1 i2⟩
theorem put_rel {k : α} {v : V} {d : D} {kvs : List (κ × V)} {ks : List α} {ds : List D} (n : Den K r H C v d) (h : kvs.map (·.1) = ks.map f) (l : DenL K r H C (kvs.map (·.2)) ds) :
    (putK kvs (f k) v).map (·.1) = (putA k d ks ds).1.map f ∧ DenL K r H C ((putK kvs (f k) v).map (·.2)) (putA k d ks ds).2 := by
  unfold putK putA
  rw [put_any inj h]
  by_cases e : memA k ks = true
  · rw [if_pos e, if_pos e]
    exact put_rep inj n h l
  · rw [if_neg e, if_neg e]
    refine ⟨by simp [h], ?_⟩
    rw [List.map_append]
    exact l.append (.cons n .nil)
end
section
variable {X : Cc} {Z : Spc} {B : Addr → Prop} {W : WX} {ρ ρ' : List Sl} {σ σ' : L2.St} {g g' g1 : G} {H H' H1 : Hp} {o o' o1 : Nat → List Addr} {E : Ends}
/-- what a slot owns is written anew -/
theorem Rel.wr {i : Nat} {p : Addr} {d d' : TI.D} {ob : HO} (R : Rel X Z B ρ σ g H o) (e : ρ[i]? = some (.own d)) (hp : σ[i]? = some (some (.ref p))) (op : o i = [p]) (hs : OwnD X.K Z.r (upd H p ob) (Cn B o) p d') :
    Rel X Z B (ρ.set i (.own d')) σ g (upd H p ob) o ∧ Stp Z H o (upd H p ob) o := by
  have hi : i < X.n := by rw [← R.lnr]; exact (List.getElem?_eq_some_iff.mp e).1
  have pi : p ∈ o i := by rw [op]; simp
  have eo : uo o i [p] = o := by
    funext j
    by_cases z : j = i
    · subst z; simp only [uo, if_pos]; exact op.symm
    · simp only [uo, if_neg z]
  have es : σ.set i (some (.ref p)) = σ := by
    obtain ⟨hl, e⟩ := List.getElem?_eq_some_iff.mp hp
    rw [← e]; exact List.set_getElem_self hl
  have nF : ¬ Z.F p := fun z => R.nB i p pi (R.sub p z)
  have at' : Z.At g (upd H p ob) := Z.loc R.at' fun a x f ea => by
    have : a ≠ p := fun z => nF (z ▸ f)
    rw [upd_ne this]; exact ea
  have nb : ∀ a, B a → a ≠ p := fun a ha z => R.nB i p pi (z ▸ ha)
  have R' : Rel X Z B (ρ.set i (.own d')) (σ.set i (some (.ref p))) g (upd H p ob) (uo o i [p]) := by
    refine R.put hi (by rw [eo]; exact Fr.put (.inr ⟨i, pi⟩)) (fun j nj a ha => ?_) at' (fun a ha => ?_) (fun a ha => ?_) (by simp) (by rw [eo]; exact .own hs)
    · have : a ≠ p := fun z => nj (R.dis j i a ha (z ▸ pi))
      rw [upd_ne this]
    · obtain ⟨x, ex, m⟩ := R.bok a ha
      exact ⟨x, by rw [upd_ne (nb a ha)]; exact ex, m⟩
    · obtain rfl := mem_one ha
      exact ⟨R.nB i a pi, .inl pi⟩
  have S' : Stp Z H o (upd H p ob) (uo o i [p]) := R.put_stp R' (Fr.put (.inr ⟨i, pi⟩)) (fun j a ha => by
    by_cases z : a = p
    · subst z; exact hs.there
    · rw [upd_ne z]; exact R.there ha) fun a ha => by
    obtain rfl := mem_one ha
    exact .inl pi
  rw [eo, es] at R'
  rw [eo] at S'
  exact ⟨R', S'⟩
theorem own_slot (R : Rel X Z B ρ σ g H o) {i : Nat} {d : TI.D} (e : ρ[i]? = some (.own d)) : ∃ p, σ[i]? = some (some (.ref p)) ∧ o i = [p] ∧ OwnD X.K Z.r H (Cn B o) p d := by
  obtain ⟨x, h1, h2⟩ := R.sl i _ e
  generalize ho : o i = os at h2
  cases h2 with
  | own h => exact ⟨_, h1, rfl, h⟩
theorem cn_upd {p : Addr} {i : Nat} {ob : HO} (R : Rel X Z B ρ σ g H o) (pi : o i = [p]) {d : TI.D} {v : V} (n : Den X.K Z.r H (Cn B o) v d) : Den X.K Z.r (upd H p ob) (Cn B o) v d := Den.fr (Fr.put (.inr ⟨i, by rw [pi]; simp⟩)) R.cok d v n
theorem cn_updL {p : Addr} {i : Nat} {ob : HO} (R : Rel X Z B ρ σ g H o) (pi : o i = [p]) {d : List TI.D} {v : List V} (n : DenL X.K Z.r H (Cn B o) v d) : DenL X.K Z.r (upd H p ob) (Cn B o) v d := DenL.fr (Fr.put (.inr ⟨i, by rw [pi]; simp⟩)) R.cok d v n
/-- x.append(..) -/
theorem app_wr {i : Nat} {d : TI.D} {v : V} (R : Rel X Z B ρ σ g H o) (n : Den X.K Z.r H (Cn B o) v d) (w : WrS X Z B W H o E (appD ρ i d g)) :
    ∃ p vs, σ[i]? = some (some (.ref p)) ∧ H p = some (.lst vs) ∧ vs.length < sizeLine ∧ E.nx σ (upd H p (.lst (vs ++ [v]))) := by
  unfold appD at w
  cases e : ρ[i]? with
  | none => rw [e] at w; exact (WrS.stk (g := G0) w).elim
  | some s =>
    rw [e] at w
    cases s with
    | own d0 =>
      cases d0 with
      | lst xs =>
        obtain ⟨c, w⟩ := WrS.grd (show WrS X Z B W H o E (grd (decide (xs.length < line)) (pure (Out.nx (ρ.set i (.own (.lst (xs ++ [d])))))) g) from w)
        have c := of_decide_eq_true c
        rw [line_eq] at c
        obtain ⟨p, h1, h2, h3⟩ := own_slot R e
        cases h3 with
        | lst h4 h5 =>
          rename_i vs
          obtain ⟨R', S'⟩ := R.wr (d' := .lst (xs ++ [d])) (ob := .lst (vs ++ [v])) e h1 h2 (.lst upd_same (cn_updL R h2 (h5.append (.cons n .nil))))
          exact ⟨p, vs, h1, h4, by rw [h5.length]; exact c, w _ _ _ R' S'⟩
      | _ => exact (WrS.stk (g := G0) w).elim
    | _ => exact (WrS.stk (g := G0) w).elim
theorem sti_wr {i : Nat} {q d : TI.D} {v y : V} {C : Addr → Prop} (R : Rel X Z B ρ σ g H o) (n : Den X.K Z.r H (Cn B o) v d) (ny : Den X.K Z.r H C y q) (w : WrS X Z B W H o E (stiD ρ i q d g)) :
    ∃ p, σ[i]? = some (some (.ref p)) ∧ (rSetL (.ref p) y v H (fun H' => E.nx σ H') ∨ rSetD (.ref p) y v H (fun H' => E.nx σ H')) := by
  unfold stiD at w
  cases e : ρ[i]? with
  | none => rw [e] at w; exact (WrS.stk (g := G0) w).elim
  | some s =>
    rw [e] at w
    cases s with
    | own d0 =>
      obtain ⟨p, h1, h2, h3⟩ := own_slot R e
      cases h3 with
      | lst h4 h5 =>
        rename_i vs xs
        cases q with
        | int j =>
          cases hm : ixN xs.length j with
          | none =>
            replace w : WrS X Z B W H o E ((match ixN xs.length j with
              | some n => pure (Out.nx (ρ.set i (.own (.lst (xs.set n d)))))
              | none => M.stk) g) := w
            rw [hm] at w
            exact (WrS.stk (g := G0) w).elim
          | some m =>
            replace w : WrS X Z B W H o E ((match ixN xs.length j with
              | some n => pure (Out.nx (ρ.set i (.own (.lst (xs.set n d)))))
              | none => M.stk) g) := w
            rw [hm] at w
            obtain rfl := den_int ny
            obtain ⟨R', S'⟩ := R.wr (d' := .lst (xs.set m d)) (ob := .lst (vs.set m v)) e h1 h2 (.lst upd_same (cn_updL R h2 (h5.set n m)))
            exact ⟨p, h1, .inl ⟨p, vs, j, m, rfl, rfl, h4, by rw [h5.length]; exact hm, w _ _ _ R' S'⟩⟩
        | _ => exact (WrS.stk (g := G0) w).elim
      | dK h4 h5 h6 =>
        rename_i kvs ks vs
        replace w : WrS X Z B W H o E ((match kyOf q with
          | some k => grd (decide (ks.length < line)) (pure (Out.nx (ρ.set i (.own (.dK (putA k d ks vs).1 (putA k d ks vs).2)))))
          | none => M.stk) g) := w
        cases hk : kyOf q with
        | none => rw [hk] at w; exact (WrS.stk (g := G0) w).elim
        | some kk =>
          rw [hk] at w
          obtain ⟨c, w⟩ := WrS.grd (show WrS X Z B W H o E (grd _ _ g) from w)
          have c := of_decide_eq_true c
          rw [line_eq] at c
          have hl : kvs.length < sizeLine := by
            have := congrArg List.length h5
            rw [List.length_map, List.length_map] at this
            omega
          obtain ⟨i1, i2⟩ := put_rel (f := Ky.k) Ky.k_inj (k := kk) n h5 h6
          obtain ⟨R', S'⟩ := R.wr (d' := .dK (putA kk d ks vs).1 (putA kk d ks vs).2) (ob := .dK (putK kvs kk.k v)) e h1 h2 (.dK upd_same i1 (cn_updL R h2 i2))
          refine ⟨p, h1, .inr ⟨p, _, rfl, ?_, w _ _ _ R' S'⟩⟩
          rw [kyOf_den ny hk]
          exact DPut.k h4 hl
      | dT h4 h5 h6 =>
        rename_i kvs ks vs
        replace w : WrS X Z B W H o E ((match kyT q with
          | some k => grd (decide (ks.length < line)) (pure (Out.nx (ρ.set i (.own (.dT (putA k d ks vs).1 (putA k d ks vs).2)))))
          | none => M.stk) g) := w
        cases hk : kyT q with
        | none => rw [hk] at w; exact (WrS.stk (g := G0) w).elim
        | some kk =>
          rw [hk] at w
          obtain ⟨c, w⟩ := WrS.grd (show WrS X Z B W H o E (grd _ _ g) from w)
          have c := of_decide_eq_true c
          rw [line_eq] at c
          have hl : kvs.length < sizeLine := by
            have := congrArg List.length h5
            rw [List.length_map, List.length_map] at this
            omega
          obtain ⟨i1, i2⟩ := put_rel (f := List.map Ky.k) map_k_inj (k := kk) n h5 h6
          obtain ⟨R', S'⟩ := R.wr (d' := .dT (putA kk d ks vs).1 (putA kk d ks vs).2) (ob := .dT (putK kvs (kk.map Ky.k) v)) e h1 h2 (.dT upd_same i1 (cn_updL R h2 i2))
          obtain ⟨b, rfl, hb⟩ := kyT_den ny hk
          exact ⟨p, h1, .inr ⟨p, _, rfl, DPut.t h4 hb hl, w _ _ _ R' S'⟩⟩
    | _ => exact (WrS.stk (g := G0) w).elim
end
end TI
set_option Elab.async false
set_option linter.all false
set_option maxRecDepth 100000
set_option maxHeartbeats 8000000
/-! lists within own lists and dicts -/
namespace TI
open PySem PySem.Spec PyProof.Rows L2
section
variable {K : PySem.W.Frag} {r : Addr} {H H' : Hp} {C : Addr → Prop}
theorem OwnL.length : ∀ {qs : List Addr} {ds : List D}, OwnL K r H C qs ds → qs.length = ds.length
  | _, _, .nil => rfl
  | _, _, .cons _ t => by simp [t.length]
theorem OwnL.get : ∀ {qs : List Addr} {ds : List D} {n : Nat} {d : D}, OwnL K r H C qs ds → ds[n]? = some d → ∃ q, qs[n]? = some q ∧ OwnD K r H C q d
  | _, _, _, _, .nil, e => by simp at e
  | _, _, 0, _, .cons a t, e => by simp at e; subst e; exact ⟨_, rfl, a⟩
  | _, _, n + 1, _, .cons a t, e => by
    obtain ⟨q, h1, h2⟩ := t.get (n := n) (by simpa using e)
    exact ⟨q, by simpa using h1, h2⟩
/-- one of them is written anew -/
theorem OwnL.upd1 {q : Addr} {d' : D} (h : OwnD K r H' C q d') (f : Fr C H H') (b : BM C H) : ∀ {qs : List Addr} {ds : List D} {n : Nat}, OwnL K r H C qs ds → qs[n]? = some q → qs.Nodup → (∀ a ∈ qs, a ≠ q → H' a = H a) → OwnL K r H' C qs (ds.set n d')
  | _, _, _, .nil, e, _, _ => by simp at e
  | _, _, 0, .cons a t, e, nd, k => by
    simp at e
    subst e
    rw [List.nodup_cons] at nd
    exact .cons h (t.mono (fun _ _ _ _ n => n) f b fun x hx => k x (List.mem_cons_of_mem _ hx) fun z => nd.1 (z ▸ hx))
  | _, _, n + 1, .cons a t, e, nd, k => by
    rw [List.nodup_cons] at nd
    have e : _ := (by simpa using e : _ = some q)
    refine .cons (a.mono (fun _ _ _ _ n => n) f b (k _ List.mem_cons_self fun z => nd.1 (z ▸ List.mem_of_getElem? e))) ?_
    exact OwnL.upd1 h f b t e nd.2 fun x hx => k x (List.mem_cons_of_mem _ hx)
theorem OwnL.setN {q : Addr} {d' : D} (h : OwnD K r H C q d') : ∀ {qs : List Addr} {ds : List D} (n : Nat), OwnL K r H C qs ds → OwnL K r H C (qs.set n q) (ds.set n d')
  | _, _, _, .nil => .nil
  | _, _, 0, .cons a t => .cons h t
  | _, _, n + 1, .cons a t => .cons a (t.setN h n)
theorem OwnL.app {q : Addr} {d' : D} (h : OwnD K r H C q d') : ∀ {qs : List Addr} {ds : List D}, OwnL K r H C qs ds → OwnL K r H C (qs ++ [q]) (ds ++ [d'])
  | _, _, .nil => .cons h .nil
  | _, _, .cons a t => .cons a (t.app h)
theorem idxA_val {k : Ky} : ∀ {kvs : List (Key × V)} {ks : List Ky} {n : Nat}, kvs.map (·.1) = ks.map Ky.k → idxA k ks = some n → ∃ v, (kvs.map (·.2))[n]? = some v ∧ valV kvs k.k = some v
  | [], [], _, _, e => by cases e
  | [], _ :: _, _, h, _ => by simp at h
  | _ :: _, [], _, h, _ => by simp at h
  | p :: kvs, a :: ks, n, h, e => by
    simp only [List.map_cons, List.cons.injEq] at h
    unfold idxA at e
    by_cases q : a = k
    · subst q
      rw [if_pos rfl] at e
      cases e
      exact ⟨p.2, rfl, valV_pos h.1⟩
    · rw [if_neg q] at e
      cases e2 : idxA k ks with
      | none => rw [e2] at e; cases e
      | some m =>
        rw [e2] at e
        cases e
        obtain ⟨v, h1, h2⟩ := idxA_val h.2 e2
        exact ⟨v, by simpa using h1, by rw [valV_neg fun z => q (Ky.k_inj (h.1.symm.trans z))]; exact h2⟩
/-- x[k], x a list or a dict, as it stands there -/
def rOw (K : PySem.W.Frag) : R2 := fun x y H Q => (∃ (a : Addr) (xs : List V) (i : Int) (v : V), x = .ref a ∧ y = .int i ∧ SqL K H a xs ∧ atI xs i = some v ∧ Q v H) ∨ (∃ (a : Addr) (v : V), x = .ref a ∧ DGet H a y (some v) ∧ Q v H)
theorem ixr_ow {X : Cx} (hu : X.A.units + 200 < cLine) : IxR X (rOw X.K) := by
  intro value slice pins s σ H x y v u Q I rx ry h hs
  rcases h with ⟨a, xs, i, z, rfl, rfl, h1, h2, q⟩ | ⟨a, z, rfl, g, q⟩
  · exact ix_list value slice pins s σ H _ _ v u Q I rx ry ⟨_, _, _, _, rfl, rfl, h1, h2, q⟩ hs
  · exact ix_dict (by omega) value slice pins s σ H _ _ v u Q I rx ry ⟨_, _, rfl, g, q⟩ hs
theorem kid_at {B' : Addr → Prop} {p : Addr} {qs : List Addr} {d q dn : D} {y : V} {n : Nat} {Q : VK} (h : OwnD2 K r H C p qs d) (hy : Den K r H B' y q) (hk : kidIx d q = some n) (hd : d.kids[n]? = some dn) :
    ∃ qn, qs[n]? = some qn ∧ OwnD K r H C qn dn ∧ (Q (.ref qn) H → rOw K (.ref p) y H Q) := by
  cases h with
  | lst h1 h2 =>
    rename_i xs
    obtain ⟨qn, e1, e2⟩ := h2.get (show xs[n]? = some dn from hd)
    cases q with
    | int j =>
      obtain rfl := den_int hy
      refine ⟨qn, e1, e2, fun hq => .inl ⟨p, _, j, .ref qn, rfl, rfl, SqL.of h1, ?_, hq⟩⟩
      unfold atI
      rw [List.length_map, h2.length, show ixN xs.length j = some n from hk]
      show (qs.map V.ref)[n]? = _
      rw [List.getElem?_map, e1]; rfl
    | _ => cases hk
  | dK h1 h2 h3 h4 =>
    rename_i kvs ks xs
    obtain ⟨qn, e1, e2⟩ := h4.get (show xs[n]? = some dn from hd)
    have hk : (kyOf q).bind (fun k => idxA k ks) = some n := hk
    cases ek : kyOf q with
    | none => rw [ek] at hk; cases hk
    | some k =>
      rw [ek] at hk
      obtain ⟨v, v1, v2⟩ := idxA_val h2 (show idxA k ks = some n from hk)
      rw [h3, List.getElem?_map, e1] at v1
      cases v1
      refine ⟨qn, e1, e2, fun hq => .inr ⟨p, _, rfl, ?_, hq⟩⟩
      rw [kyOf_den hy ek, ← v2]
      exact DGet.k h1
  | dT h1 h2 h3 h4 => cases hk
end
section
variable {X : Cc} {Z : Spc} {B : Addr → Prop} {W : WX} {ρ ρ' : List Sl} {σ σ' : L2.St} {g g' g1 : G} {H H' H1 : Hp} {o o' o1 : Nat → List Addr} {E : Ends}
theorem ow2_slot (R : Rel X Z B ρ σ g H o) {i : Nat} {d : TI.D} (e : ρ[i]? = some (.ow2 d)) : ∃ p qs, σ[i]? = some (some (.ref p)) ∧ o i = p :: qs ∧ OwnD2 X.K Z.r H (Cn B o) p qs d := by
  obtain ⟨x, h1, h2⟩ := R.sl i _ e
  generalize ho : o i = os at h2
  cases h2 with
  | ow2 h => exact ⟨_, _, h1, rfl, h⟩
/-- what a slot owns becomes another -/
theorem Rel.wrS {i : Nat} {p a : Addr} {qs : List Addr} {d d' : TI.D} {ob : HO} (R : Rel X Z B ρ σ g H o) (e : ρ[i]? = some (.ow2 d)) (hp : σ[i]? = some (some (.ref p))) (op : o i = p :: qs) (ha : a ∈ p :: qs) (hs : OwnD2 X.K Z.r (upd H a ob) (Cn B o) p qs d') :
    Rel X Z B (ρ.set i (.ow2 d')) σ g (upd H a ob) o ∧ Stp Z H o (upd H a ob) o := by
  have hi : i < X.n := by rw [← R.lnr]; exact (List.getElem?_eq_some_iff.mp e).1
  have pi : a ∈ o i := by rw [op]; exact ha
  have eo : uo o i (p :: qs) = o := by
    funext j
    by_cases z : j = i
    · subst z; simp only [uo, if_pos]; exact op.symm
    · simp only [uo, if_neg z]
  have es : σ.set i (some (.ref p)) = σ := by
    obtain ⟨hl, e⟩ := List.getElem?_eq_some_iff.mp hp
    rw [← e]; exact List.set_getElem_self hl
  have nF : ¬ Z.F a := fun z => R.nB i a pi (R.sub a z)
  have at' : Z.At g (upd H a ob) := Z.loc R.at' fun b x f ea => by
    have : b ≠ a := fun z => nF (z ▸ f)
    rw [upd_ne this]; exact ea
  have nb : ∀ b, B b → b ≠ a := fun b hb z => R.nB i a pi (z ▸ hb)
  have R' : Rel X Z B (ρ.set i (.ow2 d')) (σ.set i (some (.ref p))) g (upd H a ob) (uo o i (p :: qs)) := by
    refine R.put hi (by rw [eo]; exact Fr.put (.inr ⟨i, pi⟩)) (fun j nj b hb => ?_) at' (fun b hb => ?_) (fun b hb => ?_) (by rw [← op]; exact R.nd i) (by rw [eo]; exact .ow2 hs)
    · have : b ≠ a := fun z => nj (R.dis j i b hb (z ▸ pi))
      rw [upd_ne this]
    · obtain ⟨x, ex, m⟩ := R.bok b hb
      exact ⟨x, by rw [upd_ne (nb b hb)]; exact ex, m⟩
    · rw [← op] at hb
      exact ⟨R.nB i b hb, .inl hb⟩
  have S' : Stp Z H o (upd H a ob) (uo o i (p :: qs)) := R.put_stp R' (Fr.put (.inr ⟨i, pi⟩)) (fun j b hb => by
    by_cases z : j = i
    · subst z
      rw [op] at hb
      exact (SR.ow2 hs).there b hb
    · have : b ≠ a := fun w => z (R.dis j i b hb (w ▸ pi))
      rw [upd_ne this]; exact R.there hb) fun b hb => by
    rw [← op] at hb
    exact .inl hb
  rw [eo, es] at R'
  rw [eo] at S'
  exact ⟨R', S'⟩
theorem OwnD2.kid {C : Addr → Prop} {K : PySem.W.Frag} {r : Addr} {H : Hp} {p qn : Addr} {qs : List Addr} {d dn : TI.D} {ob : HO} {n : Nat} {q : TI.D} (h : OwnD2 K r H C p qs d) (hk : kidIx d q = some n) (hn : qs[n]? = some qn) (nd : (p :: qs).Nodup) (hC : C qn) (bm : BM C H) (hd : OwnD K r (upd H qn ob) C qn dn) :
    OwnD2 K r (upd H qn ob) C p qs (d.setKid n dn) := by
  have hq : qn ∈ qs := List.mem_of_getElem? hn
  rw [List.nodup_cons] at nd
  have npq : p ≠ qn := fun z => nd.1 (z ▸ hq)
  have f : Fr C H (upd H qn ob) := Fr.put hC
  have k : ∀ a ∈ qs, a ≠ qn → upd H qn ob a = H a := fun a _ z => upd_ne z
  cases h with
  | lst h1 h2 => exact .lst (by rw [upd_ne npq]; exact h1) (OwnL.upd1 hd f bm h2 hn nd.2 k)
  | dK h1 e1 e2 h2 => exact .dK (by rw [upd_ne npq]; exact h1) e1 e2 (OwnL.upd1 hd f bm h2 hn nd.2 k)
  | dT h1 e1 e2 h2 => cases hk
theorem refs_inj : ∀ {a b : List Addr}, a.map V.ref = b.map V.ref → a = b
  | [], [], _ => rfl
  | [], _ :: _, h => by simp at h
  | _ :: _, [], h => by simp at h
  | x :: xs, y :: ys, h => by
    simp only [List.map_cons, List.cons.injEq, V.ref.injEq] at h
    rw [h.1, refs_inj h.2]
theorem ow2_uq {K : PySem.W.Frag} {r : Addr} {H : Hp} {C C' : Addr → Prop} {p : Addr} {qs qs' : List Addr} {d : TI.D} (h : OwnD2 K r H C p qs d) (h' : OwnD2 K r H C' p qs' d) : qs = qs' := by
  cases h with
  | lst h1 _ =>
    cases h' with
    | lst g1 _ => rw [h1] at g1; simp only [Option.some.injEq, HO.lst.injEq] at g1; exact refs_inj g1
  | dK h1 _ e1 _ =>
    cases h' with
    | dK g1 _ e2 _ => rw [h1] at g1; cases g1; exact refs_inj (e1.symm.trans e2)
  | dT h1 _ e1 _ =>
    cases h' with
    | dT g1 _ e2 _ => rw [h1] at g1; cases g1; exact refs_inj (e1.symm.trans e2)
theorem kidL_wr {d q : TI.D} {k : Nat → List TI.D → M Out} {g : G} (w : WrS X Z B W H o E (kidL d q k g)) : ∃ n ys, kidIx d q = some n ∧ d.kids[n]? = some (.lst ys) ∧ WrS X Z B W H o E (k n ys g) := by
  unfold kidL at w
  cases e1 : kidIx d q with
  | none => rw [e1] at w; exact (WrS.stk (g := G0) w).elim
  | some n =>
    rw [e1] at w
    cases e2 : d.kids[n]? with
    | none =>
      replace w : WrS X Z B W H o E ((match d.kids[n]? with
        | some (.lst ys) => k n ys
        | _ => M.stk) g) := w
      rw [e2] at w; exact (WrS.stk (g := G0) w).elim
    | some dn =>
      replace w : WrS X Z B W H o E ((match d.kids[n]? with
        | some (.lst ys) => k n ys
        | _ => M.stk) g) := w
      rw [e2] at w
      cases dn with
      | lst ys => exact ⟨n, ys, rfl, e2, w⟩
      | _ => exact (WrS.stk (g := G0) w).elim
/-- a slot's own child list becomes another -/
theorem kid_wr {i n : Nat} {q : TI.D} {d : TI.D} {p qn : Addr} {qs : List Addr} {vs : List V} {xs : List TI.D} (R : Rel X Z B ρ σ g H o) (e : ρ[i]? = some (.ow2 d)) (s1 : σ[i]? = some (some (.ref p))) (op : o i = p :: qs) (h : OwnD2 X.K Z.r H (Cn B o) p qs d) (hk : kidIx d q = some n) (hn : qs[n]? = some qn)
    (l : DenL X.K Z.r H (Cn B o) vs xs) : Rel X Z B (ρ.set i (.ow2 (d.setKid n (.lst xs)))) σ g (upd H qn (.lst vs)) o ∧ Stp Z H o (upd H qn (.lst vs)) o := by
  have hq : qn ∈ p :: qs := List.mem_cons_of_mem _ (List.mem_of_getElem? hn)
  have hC : Cn B o qn := .inr ⟨i, by rw [op]; exact hq⟩
  have nd : (p :: qs).Nodup := by rw [← op]; exact R.nd i
  refine R.wrS e s1 op hq (OwnD2.kid (q := q) h hk hn nd hC R.cok.bm (.lst upd_same ?_))
  exact DenL.fr (Fr.put hC) R.cok _ _ l
theorem frz1_ow2 {ρ : List Sl} {i j : Nat} {d : TI.D} (h : (frz1 ρ j)[i]? = some (.ow2 d)) : ρ[i]? = some (.ow2 d) := by
  unfold TI.frz1 at h
  have key : ∀ d', (ρ.set j (.val d'))[i]? = some (.ow2 d) → ρ[i]? = some (.ow2 d) := fun d' h => by
    by_cases z : j = i
    · subst z
      by_cases l : j < ρ.length
      · rw [List.getElem?_set_self l] at h; cases h
      · rw [List.set_eq_of_length_le (by omega)] at h; exact h
    · rw [List.getElem?_set_ne z] at h; exact h
  split at h
  · exact key _ h
  · exact key _ h
  · exact h
theorem frz_ow2 : ∀ (vs : List Nat) {ρ : List Sl} {i : Nat} {d : TI.D}, (frz ρ vs)[i]? = some (.ow2 d) → ρ[i]? = some (.ow2 d)
  | [], _, _, _, h => h
  | v :: vs, _, _, _, h => frz1_ow2 (frz_ow2 vs h)
theorem shr_ow2 {vs : List Nat} {b : Bool} {i : Nat} {d : TI.D} (h : (shr ρ vs b)[i]? = some (.ow2 d)) : ρ[i]? = some (.ow2 d) := by
  unfold shr at h
  split at h
  · exact h
  · exact frz_ow2 vs h
theorem apk_wr {i n : Nat} {ys : List TI.D} {q x : TI.D} {d : TI.D} {v : V} {vs : List Nat} {b : Bool} (e : ρ[i]? = some (.ow2 d)) (R : Rel X Z B (shr ρ vs b) σ g H o) (hk : kidIx d q = some n) (hd : d.kids[n]? = some (.lst ys)) (nv : Den X.K Z.r H (Cn B o) v x) (w : WrS X Z B W H o E (apkD (shr ρ vs b) i n ys x g)) :
    ∃ p qs qn us, σ[i]? = some (some (.ref p)) ∧ o i = p :: qs ∧ qs[n]? = some qn ∧ H qn = some (.lst us) ∧ us.length < sizeLine ∧ E.nx σ (upd H qn (.lst (us ++ [v]))) ∧ OwnD2 X.K Z.r H (Cn B o) p qs d := by
  unfold apkD at w
  cases e1 : (shr ρ vs b)[i]? with
  | none => rw [e1] at w; exact (WrS.stk (g := G0) w).elim
  | some s =>
    rw [e1] at w
    cases s with
    | ow2 d1 =>
      have e2 := shr_ow2 e1
      rw [e] at e2
      cases e2
      obtain ⟨c, w⟩ := WrS.grd (show WrS X Z B W H o E (grd (decide (ys.length < line)) (pure (.nx ((shr ρ vs b).set i (.ow2 (d.setKid n (.lst (ys ++ [x]))))))) g) from w)
      have c := of_decide_eq_true c
      rw [line_eq] at c
      obtain ⟨p, qs, s1, op, h⟩ := ow2_slot R e1
      have hkid : ∃ qn, qs[n]? = some qn ∧ OwnD X.K Z.r H (Cn B o) qn (.lst ys) := by
        cases h with
        | lst h1 h2 => exact h2.get hd
        | dK _ _ _ h2 => exact h2.get hd
        | dT _ _ _ h2 => exact h2.get hd
      obtain ⟨qn, q1, q2⟩ := hkid
      cases q2 with
      | lst q3 q4 =>
        rename_i us
        obtain ⟨R', S'⟩ := kid_wr (q := q) (xs := ys ++ [x]) (vs := us ++ [v]) R e1 s1 op h hk q1 (q4.append (.cons nv .nil))
        exact ⟨p, qs, qn, us, s1, op, q1, q3, by rw [q4.length]; exact c, w _ _ _ R' S', h⟩
    | _ => exact (WrS.stk (g := G0) w).elim
theorem st2_wr {i n : Nat} {ys : List TI.D} {q x jj : TI.D} {d : TI.D} {v y : V} {vs : List Nat} {b : Bool} {C : Addr → Prop} (e : ρ[i]? = some (.ow2 d)) (R : Rel X Z B (shr ρ vs b) σ g H o) (hk : kidIx d q = some n) (hd : d.kids[n]? = some (.lst ys)) (nv : Den X.K Z.r H (Cn B o) v x) (ny : Den X.K Z.r H C y jj) (w : WrS X Z B W H o E (st2D (shr ρ vs b) i n ys jj x g)) :
    ∃ p qs qn, σ[i]? = some (some (.ref p)) ∧ qs[n]? = some qn ∧ OwnD2 X.K Z.r H (Cn B o) p qs d ∧ rSetL (.ref qn) y v H (fun H' => E.nx σ H') := by
  unfold st2D at w
  cases e1 : (shr ρ vs b)[i]? with
  | none => rw [e1] at w; exact (WrS.stk (g := G0) w).elim
  | some s =>
    rw [e1] at w
    cases s with
    | ow2 d1 =>
      have e2 := shr_ow2 e1
      rw [e] at e2
      cases e2
      cases jj with
      | int j =>
        obtain rfl := den_int ny
        replace w : WrS X Z B W H o E ((match ixN ys.length j with
          | some m => pure (Out.nx ((shr ρ vs b).set i (.ow2 (d.setKid n (.lst (ys.set m x))))))
          | none => M.stk) g) := w
        cases hm : ixN ys.length j with
        | none => rw [hm] at w; exact (WrS.stk (g := G0) w).elim
        | some m =>
          rw [hm] at w
          obtain ⟨p, qs, s1, op, h⟩ := ow2_slot R e1
          have hkid : ∃ qn, qs[n]? = some qn ∧ OwnD X.K Z.r H (Cn B o) qn (.lst ys) := by
            cases h with
            | lst h1 h2 => exact h2.get hd
            | dK _ _ _ h2 => exact h2.get hd
            | dT _ _ _ h2 => exact h2.get hd
          obtain ⟨qn, q1, q2⟩ := hkid
          cases q2 with
          | lst q3 q4 =>
            rename_i us
            obtain ⟨R', S'⟩ := kid_wr (q := q) (xs := ys.set m x) (vs := us.set m v) R e1 s1 op h hk q1 (q4.set nv m)
            exact ⟨p, qs, qn, s1, q1, h, qn, us, j, m, rfl, rfl, q3, by rw [q4.length]; exact hm, w _ _ _ R' S'⟩
      | _ => exact (WrS.stk (g := G0) w).elim
    | _ => exact (WrS.stk (g := G0) w).elim
end
end TI
set_option Elab.async false
set_option linter.all false
set_option maxRecDepth 100000
set_option maxHeartbeats 8000000
namespace TI
open PySem PySem.Spec PyProof.Rows L2
section
variable {X : Cc} {Z : Spc} {B : Addr → Prop} {W : WX} {ρ : List Sl} {σ : L2.St} {g g2 : G} {H H2 : Hp} {o : Nat → List Addr}
theorem own_of {K : PySem.W.Frag} {r : Addr} {C B' : Addr → Prop} {H : Hp} {p : Addr} {d : D} (n : Den K r H B' (.ref p) d) (ic : isCont d = true) (pk : D.pureL d.kids = true) : OwnD K r H C p d := by
  cases n with
  | lst h1 _ h3 => exact .lst h1 (DenL.pur _ _ pk h3)
  | dK h1 _ e h3 => exact .dK h1 e (DenL.pur _ _ pk h3)
  | dT h1 _ e h3 => exact .dT h1 e (DenL.pur _ _ pk h3)
  | _ => cases ic
/-- the root of what a slot owns is written, one new thing pn among the children -/
theorem Rel.wrN {i : Nat} {p pn : Addr} {qs qs' : List Addr} {d d' : D} {ob : HO} (R : Rel X Z B ρ σ g H o) (R2 : Rel X Z B ρ σ g2 H2 o) (f : Fr Z.F H H2) (e : ρ[i]? = some (.ow2 d)) (hp : σ[i]? = some (some (.ref p))) (op : o i = p :: qs) (np : H pn = none) (sub : ∀ a ∈ qs', a ∈ qs ∨ a = pn) (nd : (p :: qs').Nodup)
    (hs : (∀ {ds : List D}, OwnL X.K Z.r H (Cn B o) qs ds → OwnL X.K Z.r (upd H2 p ob) (Cn B (uo o i (p :: qs'))) qs ds) → OwnD2 X.K Z.r (upd H2 p ob) (Cn B (uo o i (p :: qs'))) p qs' d') :
    Rel X Z B (ρ.set i (.ow2 d')) σ g2 (upd H2 p ob) (uo o i (p :: qs')) ∧ Stp Z H o (upd H2 p ob) (uo o i (p :: qs')) := by
  have hi : i < X.n := by rw [← R.lnr]; exact (List.getElem?_eq_some_iff.mp e).1
  have pi : p ∈ o i := by rw [op]; simp
  have es : σ.set i (some (.ref p)) = σ := by
    obtain ⟨hl, e⟩ := List.getElem?_eq_some_iff.mp hp
    rw [← e]; exact List.set_getElem_self hl
  have nF : ¬ Z.F p := fun z => R.nB i p pi (R.sub p z)
  have at' : Z.At g2 (upd H2 p ob) := Z.loc R2.at' fun b x ff ea => by
    have : b ≠ p := fun z => nF (z ▸ ff)
    rw [upd_ne this]; exact ea
  have nb : ∀ b, B b → b ≠ p := fun b hb z => R.nB i p pi (z ▸ hb)
  have nBn : ¬ B pn := fun z => by
    obtain ⟨x, ex, _⟩ := R.bok pn z
    rw [np] at ex; cases ex
  have same : ∀ j, ∀ a ∈ o j, a ≠ p → upd H2 p ob a = H a := fun j a ha z => by
    obtain ⟨x, ex, _⟩ := R.there ha
    rw [upd_ne z, ex]
    exact f a x ex fun w => R.nB j a ha (R.sub a w)
  have new : ∀ a ∈ p :: qs', ¬ B a ∧ (a ∈ o i ∨ H a = none) := fun a ha => by
    rcases List.mem_cons.mp ha with rfl | ha
    · exact ⟨R.nB i a pi, .inl pi⟩
    · rcases sub a ha with h | rfl
      · have : a ∈ o i := by rw [op]; exact List.mem_cons_of_mem _ h
        exact ⟨R.nB i a this, .inl this⟩
      · exact ⟨nBn, .inr np⟩
  have frC : Fr (Cn B (uo o i (p :: qs'))) H (upd H2 p ob) := (f.mono fun y z => .inl (R.sub y z)).trans (Fr.put (.inr ⟨i, by simp [uo]⟩))
  have inC : ∀ a ob', H a = some ob' → Cn B (uo o i (p :: qs')) a → Cn B o a := fun a ob' ea m => by
    rcases m with m | ⟨l, m⟩
    · exact .inl m
    · by_cases z : l = i
      · subst z
        simp only [uo, if_pos] at m
        rcases (new a m).2 with w | w
        · exact .inr ⟨_, w⟩
        · rw [ea] at w; cases w
      · simp only [uo, if_neg z] at m
        exact .inr ⟨l, m⟩
  have bm : BM (Cn B (uo o i (p :: qs'))) H := fun a ob' ea m => R.cok.bm a ob' ea (inC a ob' ea m)
  have ndo : (p :: qs).Nodup := by rw [← op]; exact R.nd i
  have lift : ∀ {ds : List D}, OwnL X.K Z.r H (Cn B o) qs ds → OwnL X.K Z.r (upd H2 p ob) (Cn B (uo o i (p :: qs'))) qs ds := fun {ds} h =>
    h.mono (fun a ob' ea _ n m => n (inC a ob' ea m)) frC bm fun q hq => same i q (by rw [op]; exact List.mem_cons_of_mem _ hq) fun z => (List.nodup_cons.mp ndo).1 (z ▸ hq)
  have hs' := hs lift
  have R' : Rel X Z B (ρ.set i (.ow2 d')) (σ.set i (some (.ref p))) g2 (upd H2 p ob) (uo o i (p :: qs')) := by
    refine R.put hi frC (fun j nj a ha => same j a ha fun z => nj (R.dis j i a ha (z ▸ pi))) at' (fun b hb => ?_) new nd (.ow2 hs')
    obtain ⟨x, ex, m⟩ := R2.bok b hb
    exact ⟨x, by rw [upd_ne (nb b hb)]; exact ex, m⟩
  have S' : Stp Z H o (upd H2 p ob) (uo o i (p :: qs')) := R.put_stp R' ((f.mono fun y z => .inl z).trans (Fr.put (.inr ⟨i, pi⟩))) (fun j a ha => by
    by_cases z : a = p
    · rw [z]; exact (SR.ow2 hs').there p List.mem_cons_self
    · rw [same j a ha z]; exact R.there ha) fun a ha => (new a ha).2
  rw [es] at R'
  exact ⟨R', S'⟩
theorem nodup_set {pn : Addr} : ∀ {qs : List Addr} (n : Nat), qs.Nodup → pn ∉ qs → (qs.set n pn).Nodup
  | [], _, _, _ => .nil
  | q :: qs, 0, h, m => by
    rw [List.nodup_cons] at h
    simp only [List.mem_cons, not_or] at m
    exact List.nodup_cons.mpr ⟨m.2, h.2⟩
  | q :: qs, n + 1, h, m => by
    rw [List.nodup_cons] at h
    simp only [List.mem_cons, not_or] at m
    refine List.nodup_cons.mpr ⟨fun z => ?_, nodup_set n h.2 m.2⟩
    rcases List.mem_or_eq_of_mem_set z with z | z
    · exact h.1 z
    · exact m.1 z.symm
theorem putK_new {k : Ky} {kvs : List (Key × V)} {ks : List Ky} {v : V} (h : kvs.map (·.1) = ks.map Ky.k) (m : memA k ks = false) : putK kvs k.k v = kvs ++ [(k.k, v)] := by
  unfold putK
  rw [put_any (f := Ky.k) Ky.k_inj h, m]
  rfl
theorem stf_wr {i : Nat} {p pn : Addr} {qs : List Addr} {d d' q x : D} {y : V} {B' C : Addr → Prop} {E : Ends} (R : Rel X Z B ρ σ g H o) (R2 : Rel X Z B ρ σ g2 H2 o) (f : Fr Z.F H H2) (e : ρ[i]? = some (.ow2 d)) (hp : σ[i]? = some (some (.ref p))) (op : o i = p :: qs) (np : H pn = none)
    (n : Den X.K Z.r H2 B' (.ref pn) x) (ic : isCont x = true) (pk : D.pureL x.kids = true) (hl : d.kids.length < line) (ny : Den X.K Z.r H2 C y q) (hk : putKid d q x = some d')
    (w : WrS X Z B W H o E (.ok (.nx (ρ.set i (.ow2 d'))) g2)) : rSetL (.ref p) y (.ref pn) H2 (fun H' => E.nx σ H') ∨ rSetD (.ref p) y (.ref pn) H2 (fun H' => E.nx σ H') := by
  obtain ⟨p2, qs2, s2, op2, h2⟩ := ow2_slot R2 e
  rw [hp] at s2
  cases s2
  rw [op] at op2
  cases op2
  obtain ⟨p1, qs1, s1, op1, h1⟩ := ow2_slot R e
  rw [hp] at s1
  cases s1
  rw [op] at op1
  cases op1
  have ndo : (p :: qs).Nodup := by rw [← op]; exact R.nd i
  have npm : pn ∉ p :: qs := fun z => by
    obtain ⟨ob, eo, _⟩ := R.there (i := i) (a := pn) (by rw [op]; exact z)
    rw [np] at eo; cases eo
  have npp : pn ≠ p := fun z => npm (by rw [z]; simp)
  have npq : pn ∉ qs := fun z => npm (List.mem_cons_of_mem _ z)
  rw [List.nodup_cons] at ndo
  rw [line_eq] at hl
  have own : ∀ {C' : Addr → Prop} {ob : HO}, C' p → BM C' H2 → OwnD X.K Z.r (upd H2 p ob) C' pn x := fun {C' ob} c b => (own_of (C := C') n ic pk).mono (fun _ _ _ _ z => z) (Fr.put c) b (by rw [upd_ne npp])
  have bm : ∀ {qs' : List Addr}, (∀ a ∈ qs', a ∈ qs ∨ a = pn) → BM (Cn B (uo o i (p :: qs'))) H2 := fun {qs'} sub a ob ea m => by
    rcases m with m | ⟨l, m⟩
    · exact R2.bok.bm a ob ea m
    · have go : ∀ l, a ∈ o l → mutO ob = true := fun l m => by
        obtain ⟨ob', e', mm⟩ := R2.there m
        rw [ea] at e'; cases e'; exact mm
      by_cases z : l = i
      · subst z
        simp only [uo, if_pos] at m
        rcases List.mem_cons.mp m with rfl | m
        · exact go l (by rw [op]; simp)
        · rcases sub a m with m | rfl
          · exact go l (by rw [op]; exact List.mem_cons_of_mem _ m)
          · obtain ⟨ob', e', mm⟩ := (own_of (C := B) n ic pk).there
            rw [ea] at e'; cases e'; exact mm
      · simp only [uo, if_neg z] at m
        exact go l m
  have inC : ∀ {qs' : List Addr}, Cn B (uo o i (p :: qs')) p := fun {qs'} => .inr ⟨i, by simp [uo]⟩
  cases h2 with
  | lst k1 k2 =>
    rename_i xs
    cases h1 with
    | lst j1 j2 =>
      cases q with
      | int j =>
        have hk : (ixN xs.length j).map (fun m => D.lst (xs.set m x)) = some d' := hk
        cases hm : ixN xs.length j with
        | none => rw [hm] at hk; cases hk
        | some m =>
          rw [hm] at hk
          cases hk
          obtain rfl := den_int ny
          have sub : ∀ a ∈ qs.set m pn, a ∈ qs ∨ a = pn := fun a ha => List.mem_or_eq_of_mem_set ha
          obtain ⟨R', S'⟩ := R.wrN (qs' := qs.set m pn) (d' := .lst (xs.set m x)) (ob := .lst ((qs.map V.ref).set m (.ref pn))) R2 f e hp op np sub
            (List.nodup_cons.mpr ⟨fun z => by
              rcases sub p z with z | z
              · exact ndo.1 z
              · exact npp z.symm, nodup_set m ndo.2 npq⟩) fun lift => .lst (by rw [upd_same, List.map_set]) ((lift j2).setN (own inC (bm sub)) m)
          exact .inl ⟨p, _, j, m, rfl, rfl, k1, by rw [List.length_map, k2.length]; exact hm, w _ _ _ R' S'⟩
      | _ => cases hk
  | dK k1 k2 k3 k4 =>
    rename_i kvs ks vs
    cases h1 with
    | dK j1 j2 j3 j4 =>
      have hk : ((kyOf q).bind fun k => if memA k ks = true then none else some (D.dK (ks ++ [k]) (vs ++ [x]))) = some d' := hk
      cases ek : kyOf q with
      | none => rw [ek] at hk; cases hk
      | some k =>
        rw [ek] at hk
        have hk : (if memA k ks = true then none else some (D.dK (ks ++ [k]) (vs ++ [x]))) = some d' := hk
        split at hk
        · cases hk
        · rename_i hm
          cases hk
          have hm : memA k ks = false := by simpa using hm
          have sub : ∀ a ∈ qs ++ [pn], a ∈ qs ∨ a = pn := fun a ha => by simpa using ha
          have e1 := putK_new (v := .ref pn) k2 hm
          obtain ⟨R', S'⟩ := R.wrN (qs' := qs ++ [pn]) (d' := .dK (ks ++ [k]) (vs ++ [x])) (ob := .dK (putK kvs k.k (.ref pn))) R2 f e hp op np sub
            (List.nodup_cons.mpr ⟨fun z => by
              rcases sub p z with z | z
              · exact ndo.1 z
              · exact npp z.symm, by
              rw [List.nodup_append]
              exact ⟨ndo.2, by simp, fun a ha b hb => by
                obtain rfl := mem_one hb
                exact fun z => npq (z ▸ ha)⟩⟩) fun lift => .dK upd_same (by rw [e1]; simp [k2]) (by rw [e1]; simp [k3]) ((lift j4).app (own inC (bm sub)))
          refine .inr ⟨p, _, rfl, ?_, w _ _ _ R' S'⟩
          rw [kyOf_den ny ek]
          refine DPut.k k1 ?_
          have l1 := congrArg List.length k3
          rw [List.length_map, List.length_map] at l1
          rw [l1, k4.length]; exact hl
  | dT k1 k2 k3 k4 => cases hk
end
end TI
set_option Elab.async false
set_option linter.all false
set_option maxRecDepth 100000
set_option maxHeartbeats 8000000
namespace TI
open PySem PySem.Spec PyProof.Rows L2
section
variable {X : Cx} {Z : Spc} {W : WX} {k : Nat} {sc : Scope}
theorem bnd_bnd {α β γ : Type} {m : M α} {k : α → M β} {K : β → M γ} {g g' : G} {a : α} (h : m g = .ok a g') : M.bnd (M.bnd m k) K g = M.bnd (k a) K g' := by
  have e : M.bnd m k g = k a g' := by
    unfold M.bnd; rw [h]
  show (match M.bnd m k g with
    | .ok a g' => K a g'
    | .err e g' => .err e g'
    | .stuck => .stuck) = _
  rw [e]; rfl
theorem pset_or {t u : TSet} (h1 : PSet X t) (h2 : PSet X u) : PSet X (fun o i v H Q => t o i v H Q ∨ u o i v H Q) := fun pins s σ H o i v ov iv uu Q I r1 r2 r3 q => by
  rcases q with q | q
  · exact h1 pins s σ H o i v ov iv uu Q I r1 r2 r3 q
  · exact h2 pins s σ H o i v ov iv uu Q I r1 r2 r3 q
theorem lif_wr2 {X : Cc} {B : Addr → Prop} {ρ ρ' : List Sl} {σ : L2.St} {g : G} {H H0 : Hp} {o : Nat → List Addr} {E : Ends} {α : Type} {m : M α} {k : α → M Out} (vs : List Nat) (R : Rel X Z B ρ σ g H o) (S : Stp Z H0 o H o) (h : WrS X Z B W H0 o E (lif m ρ' k g)) :
    Wr Z H (fun a g1 H1 => Rel X Z B ρ σ g1 H1 o ∧ WrS X Z B W H0 o E (k a g1)) (erW X Z (Bx B o vs) W σ) (m g) := by
  unfold lif at h
  cases e : m g with
  | ok a g1 =>
    rw [e] at h
    exact fun H1 f1 a1 => ⟨R.step f1 a1, h⟩
  | err x g1 =>
    rw [e] at h
    exact fun H1 f1 a1 cls dd ea => h σ cls dd H1 R.len (R.step f1 a1).bok a1 (S.fr_mo (f1.mono fun y z => .inl z)) (ea.ban fun a z => .inl z)
  | stuck => rw [e] at h; exact h.elim
theorem asg_sub {o i : Expr} {p : Pos} (h : plainE i = true) (env : Env) : ∀ v, assign (.Subscript o i p) env v = (do
      let ov ← holding [v] (eval o env)
      let iv ← holding [v, ov] (eval i env)
      standAt p
      holding [v, ov, iv] (setItem ov iv v)
      release [v, ov, iv] []) := by
  cases i <;> first | (intro _; rfl) | cases h
theorem few_args {v : Expr} {vs : List Expr} {cp : Pos} {env : Env} (h : ∀ a ∈ v :: vs, plainE a = true) (h3 : vs.length < 20) : ((backTo cp (starEach (v :: vs) env)).all (fun x => !x.1) && (backToKw cp (keywordEach [] env)).all (fun x => x.1.isSome)
          && decide ((v :: vs).length + ([] : List Keyword).length + (if ([] : List Keyword).isEmpty then 0 else 1) < 30)) = true := by
  rw [star_all h]
  have : decide ((v :: vs).length + ([] : List Keyword).length + (if ([] : List Keyword).isEmpty then 0 else 1) < 30) = true := by
    rw [decide_eq_true_eq, List.length_cons]
    show vs.length + 1 + 0 + 0 < 30
    omega
  rw [this]; rfl
theorem wrs_if {X : Cc} {B : Addr → Prop} {H : Hp} {o : Nat → List Addr} {E : Ends} {c : Bool} {a b : M Out} {g : G} (h : WrS X Z B W H o E ((if c = true then a else b) g)) : if c = true then WrS X Z B W H o E (a g) else WrS X Z B W H o E (b g) := by
  cases c <;> exact h
/-- what a try makes of its body's end -/
theorem try_wr {X : Cc} {Z : Spc} {B : Addr → Prop} {W W' : WX} {g : G} {H : Hp} {o : Nat → List Addr} {D : Ends} {x : Str} {hd : HS} {tab : List (Str × List Str)} {m : M Out} (h : WrS X Z B W H o D (M.bnd m (tryE x hd tab) g))
    (hx : ∀ (e : Er) (anc : List Str) (σ' : L2.St) (cls : Value) (dd : Option Addr) (H' : Hp), σ'.length = X.n → BOk B H' → ErrAt X Z B e cls dd H' → tab.lookup (S e.cls) = some anc →
      (anc.contains x = true → ∃ d, hs anc e hd = some d ∧ ∀ v H1, Same H' H1 → Den X.K Z.r H1 B v d → D.rt v H1) → (anc.contains x = false → W cls dd σ' H') → W' cls dd σ' H') : WrS X Z B W' H o D (m g) := by
  unfold M.bnd at h
  cases em : m g with
  | stuck => rw [em] at h; exact h.elim
  | err e g' => rw [em] at h; exact h.elim
  | ok u g' =>
    rw [em] at h
    cases u with
    | nx ρ => exact h
    | bk ρ => exact h
    | ct ρ => exact h
    | rt d => exact h
    | ex e ρ =>
      simp only [tryE] at h
      cases ea : tab.lookup (S e.cls) with
      | none => simp only [ea] at h; exact (WrS.stk (g := G0) h).elim
      | some anc =>
        simp only [ea] at h
        intro σ' cls dd H' l b a f n
        refine hx e anc σ' cls dd H' l b n ea (fun hc => ?_) (fun hc => ?_)
        · rw [if_pos hc] at h
          cases ed : hs anc e hd with
          | none => simp only [ed] at h; exact (WrS.stk (g := G0) h).elim
          | some d =>
            simp only [ed] at h
            refine ⟨d, rfl, fun v H1 s1 n1 => h v H1 (at_same Z a s1) (f.trans (sameFr s1)) n1⟩
        · rw [if_neg (by rw [hc]; exact Bool.false_ne_true)] at h
          exact h σ' cls dd H' l b a f n
mutual
theorem st_ps : ∀ (s : St) (X : Cx) (W : WX) (hp : Pz X) (O : XOk X Z W k sc) (hf : ∀ x, sc.names.lookup x = some .cell → X.fn x = true) (a : Stmt), mS X.N sc s a = true → Cov X Z k s.calls s.globs → Rv X k s.rses s.tris → PS X a (tS (cc X) Z W (exS s))
  | .set n i e, X, W, hp, O, hf, q, h, cv, rv => by
    unfold mS at h
    split at h
    · rename_i x p v pos
      simp only [Bool.and_eq_true] at h
      obtain ⟨h1, h2, h3, h9⟩ := h
      have hi : i < X.N.length := (nm_loc O h1 hf).2.2.2
      refine ps_mono (ps_setA O hf cv h1 h2 h3 h9) fun E σ H ⟨B, ρ, g, o, R, w⟩ => ?_
      show tM (cc X) Z W e.vs e.fresh (ev e) σ H fun v H1 => E.nx (σ.set i (some v)) H1
      refine ⟨Bx B o e.vs, ρ, g, R.pre e.vs, ?_⟩
      rcases n with _ | _ | n
      · simp only [exS] at w
        refine (lif_wr e.vs R w).mono fun d g1 H1 f1 a1 ⟨R1, S1, w1⟩ v n _ => ?_
        obtain ⟨o', R2, S2, hb⟩ := R1.shr e.vs d.pure
        obtain ⟨R3, S3⟩ := R2.setV hi (bx_keep hb (fun z => z) n)
        exact w1 _ _ _ R3 (S1.trans (S2.trans S3))
      · simp only [exS] at w
        refine (lif_wr e.vs R w).mono fun d g1 H1 f1 a1 ⟨R1, S1, w1⟩ v n fs => ?_
        obtain ⟨c, w1⟩ := WrS.grd w1
        simp only [Bool.and_eq_true, decide_eq_true_eq] at c
        obtain ⟨c1, c2, c3⟩ := c
        obtain ⟨pp, rfl, np⟩ := fs.a c1 c2
        obtain ⟨R2, S2⟩ := R.setO hi f1 a1 n np c2 c3
        exact w1 _ _ _ R2 S2
      · simp only [exS] at w
        refine (lif_wr e.vs R w).mono fun d g1 H1 f1 a1 ⟨R1, S1, w1⟩ v n fs => ?_
        obtain ⟨c, w1⟩ := WrS.grd w1
        simp only [Bool.and_eq_true, Bool.or_eq_true, decide_eq_true_eq] at c
        obtain ⟨c1, c2, c3⟩ := c
        obtain ⟨pp, rfl, np⟩ := fs.a c1 c2
        by_cases ke : d.kids.isEmpty = true
        · have k0 : d.kids = [] := by simpa using ke
          obtain ⟨R2, S2⟩ := R.setO2 (p := pp) (qs := []) (d := d) hi f1 a1 (by simpa using np) (by simp) (by
            cases n with
            | lst h1 _ h3 =>
              cases (show _ = [] from k0)
              cases h3
              exact .lst h1 .nil
            | dK h1 _ e h3 =>
              cases (show _ = [] from k0)
              exact .dK h1 e (List.eq_nil_of_length_eq_zero h3.length) .nil
            | dT h1 _ e h3 =>
              cases (show _ = [] from k0)
              exact .dT h1 e (List.eq_nil_of_length_eq_zero h3.length) .nil
            | _ => cases c2)
          exact w1 _ _ _ R2 S2
        · rcases c3 with c3 | ⟨c3, c4, c5⟩
          · exact absurd c3 ke
          · obtain ⟨qs, q1, q2, q3⟩ := fs.b c3 c4 pp rfl
            obtain ⟨R2, S2⟩ := R.setO2 (p := pp) (qs := qs) (d := d) hi f1 a1 (fun a ha => by
              rcases List.mem_cons.mp ha with rfl | ha
              · exact np
              · exact (q3 a ha).1) (List.nodup_cons.mpr ⟨fun z => (q3 pp z).2 rfl, q2⟩) (by
              cases n with
              | lst h1 _ h3 =>
                rw [q1] at h1
                cases h1
                exact .lst q1 (ownL_of h3 c4 c5)
              | dK h1 _ e h3 => rw [q1] at h1; cases h1
              | dT h1 _ e h3 => rw [q1] at h1; cases h1
              | _ => cases c2)
            exact w1 _ _ _ R2 S2
    · exact absurd h Bool.false_ne_true
  | .unp ts e, X, W, hp, O, hf, q, h, cv, rv => by
    unfold mS at h
    split at h
    · rename_i es kk tp v pos
      simp only [Bool.and_eq_true, Bool.not_eq_true'] at h
      obtain ⟨h1, h2, h3, h4⟩ := h
      have pg := pg_of (X := X) (sc := sc) O.nd O.calm (fun x e => by rw [O.sc]; exact e) (fun x e => ⟨by rw [O.sc]; exact e, hf x e⟩) (.tp ts) (.Tuple es kk tp) (by simpa only [mT] using h1)
      refine ps_mono (ps_asg (ex_pe e X W sc v O cv h2) pg (no_swap h3 (some (.Tuple es kk tp)) pos.line X.env) (no_stores h4 _)) fun E σ H ⟨B, ρ, g, o, R, w⟩ => ?_
      show tM (cc X) Z W e.vs e.fresh (ev e) σ H fun v H1 => gT X.K (.tp ts) v σ H1 E.nx
      refine ⟨Bx B o e.vs, ρ, g, R.pre e.vs, ?_⟩
      simp only [exS] at w
      refine (lif_wr e.vs R w).mono fun d g1 H1 f1 a1 ⟨R1, S1, w1⟩ v n _ => ?_
      obtain ⟨o', R2, S2, hb⟩ := R1.shr e.vs d.pure
      rcases pr_bindT (.tp ts) d (shr ρ e.vs d.pure) g1 with ⟨ρ2, eb⟩ | eb
      · replace w1 : WrS (cc X) Z B W H o E ((bindT (.tp ts) d (shr ρ e.vs d.pure) >>= fun r => (pure (Out.nx r) : M Out)) g1) := w1
        have w1 : WrS (cc X) Z B W H o E (M.bnd (bindT (.tp ts) d (shr ρ e.vs d.pure)) (fun r => (pure (Out.nx r) : M Out)) g1) := w1
        unfold M.bnd at w1
        rw [eb] at w1
        exact rel_bindT (N := X.N) (sc := sc) rfl (.tp ts) d v _ σ g1 o' ρ2 g1 (.Tuple es kk tp) _ (by simpa only [mT] using h1) R2 eb (bx_keep hb (fun z => z) n) fun σ' o2 R3 S3 _ => w1 _ _ _ R3 (S1.trans (S2.trans S3))
      · have w1 : WrS (cc X) Z B W H o E (M.bnd (bindT (.tp ts) d (shr ρ e.vs d.pure)) (fun r => (pure (Out.nx r) : M Out)) g1) := w1
        unfold M.bnd at w1
        rw [eb] at w1
        exact w1.elim
    · exact absurd h Bool.false_ne_true
  | .aug i op e, X, W, hp, O, hf, q, h, cv, rv => by
    unfold mS at h
    split at h
    · rename_i x p o' v pos
      simp only [Bool.and_eq_true, Bool.or_eq_true, decide_eq_true_eq] at h
      obtain ⟨rfl, h0, h1, h2⟩ := h
      obtain ⟨n1, n2, n3, n4⟩ := nm_loc O h1 hf
      have key : ∀ (f : Int → Int → Int), (∀ a y z, augD op a y = some z → ∃ b, y = .int b ∧ z = .int (f a b)) → OpR X (inplaceOp op) (rI0 fun i j => .int (f i j)) → PS X (.AugAssign (.Name x p) op v pos) (tS (cc X) Z W (exS (.aug i op e))) := fun f hfa ho => by
        refine ps_mono (ps_aug O.nd n1 n2 (ex_pe e X W sc v O cv h2) ho n3) fun E σ H ⟨B, ρ, g, o, R, w⟩ => ?_
        unfold exS at w
        rcases ea : vget ρ i with _ | d0
        · rw [ea] at w; exact w.elim
        cases d0 with
        | int a =>
          rw [ea] at w
          obtain ⟨va, q1, q2⟩ := (R.pre [i]).sl i (by simp) (.int a) ea
          cases q2
          refine ⟨_, q1, Bx B o e.vs, ρ, g, R.pre e.vs, (lif_wr e.vs R w).mono fun d g1 H1 f1 a1 ⟨R1, S1, w1⟩ v1 n _ => ?_⟩
          rcases ez : augD op a d with _ | z
          · rw [ez] at w1; exact w1.elim
          · rw [ez] at w1
            obtain ⟨b, rfl, rfl⟩ := hfa a d z ez
            cases n
            refine ⟨a, b, rfl, rfl, ?_⟩
            obtain ⟨R3, S3⟩ := R1.setV (i := i) (v := .int (f a b)) (d := .int (f a b)) n4 (.int _)
            exact w1 _ _ _ R3 (S1.trans S3)
        | _ => rw [ea] at w; exact w.elim
      rcases h0 with rfl | rfl
      · exact key (fun a b => a + b) (fun a y z e => by
          cases y <;> first | (cases e; exact ⟨_, rfl, rfl⟩) | cases e) iop_add
      · exact key (fun a b => a - b) (fun a y z e => by
          cases y <;> first | (cases e; exact ⟨_, rfl, rfl⟩) | cases e) iop_sub
    · exact absurd h Bool.false_ne_true
  | .app i e, X, W, hp, O, hf, q, h, cv, rv => by
    unfold mS at h
    split at h
    · rename_i x p nm ap v cp pos
      simp only [Bool.and_eq_true, decide_eq_true_eq] at h
      obtain ⟨rfl, h1, h2, h3⟩ := h
      obtain ⟨n1, n2, n3, n4⟩ := name_vis h1
      have pl : ∀ a ∈ [v], plainE a = true := fun a ha => by
        obtain rfl := mem_one ha
        exact mE_plain h2
      refine ps_mono (ps_expr (pe_bm PySem.F.plainAttrs_list PySem.F.slot_list_append PySem.F.type_list_append mt_append (pe_var n1 (by rw [O.sc]; exact n2) n3 n4) (pa_cons (ex_pe e X W sc v O cv h2) pa_nil (star_cons (mE_plain h2))) rfl (few_args pl (by simp)) h3 (star_cons (mE_plain h2)) rfl) rfl) fun E σ H ⟨B, ρ, g, o, R, w⟩ => ?_
      cases er : ρ[i]? with
      | none => simp only [exS, er] at w; exact (WrS.stk (g := G0) w).elim
      | some s =>
        cases s with
        | own d0 =>
          cases d0 with
          | lst xs =>
            simp only [exS, er] at w
            obtain ⟨p0, s1, s2, s3⟩ := own_slot R er
            refine ⟨_, s1, ?_, ?_⟩
            · cases s3 with
              | lst h4 _ => exact .inl ⟨rfl, _, SqL.of h4⟩
            · refine ⟨Bx B o e.vs, ρ, g, R.pre e.vs, ?_⟩
              refine (lif_wr e.vs R w).mono fun d g1 H1 f1 a1 ⟨R1, S1, w1⟩ v n _ => ?_
              obtain ⟨o', R2, S2, hb⟩ := R1.shr e.vs d.pure
              obtain ⟨p1, vs, e1, e2, e3, e4⟩ := app_wr R2 (bx_keep hb (fun z => z) n) (w1.from (S1.trans S2))
              rw [s1] at e1
              cases e1
              exact ⟨_, _, _, rfl, rfl, e2, e3, e4⟩
          | _ => simp only [exS, er] at w; exact (WrS.stk (g := G0) w).elim
        | _ => simp only [exS, er] at w; exact (WrS.stk (g := G0) w).elim
    · exact absurd h Bool.false_ne_true
  | .sti i kx e, X, W, hp, O, hf, q, h, cv, rv => by
    unfold mS at h
    split at h
    · rename_i x p j sp v pos
      simp only [Bool.and_eq_true] at h
      obtain ⟨h1, h2, h3⟩ := h
      obtain ⟨n1, n2, n3, n4⟩ := name_vis h1
      have hu : X.A.units + 1 < cLine := by have := O.u; omega
      refine ps_mono (ps_asg (ex_pe e X W sc v O cv.l h3) (pg_sub (pe_var n1 (by rw [O.sc]; exact n2) n3 n4) (ex_pe kx X W sc j O cv.r h2) (pset_or set_list (set_dict hu)) (asg_sub (mE_plain h2) _)) (no_swap_sub v (.Name x p) j sp pos.line X.env) (by cases v <;> rfl)) fun E σ H ⟨B, ρ, g, o, R, w⟩ => ?_
      cases er : ρ[i]? with
      | none => simp only [exS, er] at w; exact (WrS.stk (g := G0) w).elim
      | some s =>
        cases s with
        | own d0 =>
          simp only [exS, er] at w
          obtain ⟨p0, s1, s2, s3⟩ := own_slot R er
          refine ⟨Bx B o e.vs, ρ, g, R.pre e.vs, ?_⟩
          refine (lif_wr e.vs R w).mono fun d g1 H1 f1 a1 ⟨R1, S1, w1⟩ v n _ => ?_
          refine ⟨_, s1, ?_⟩
          refine ⟨Bx B o kx.vs, ρ, g1, R1.pre kx.vs, ?_⟩
          refine (lif_wr kx.vs R1 (w1.from S1)).mono fun q g2 H2 f2 a2 ⟨R2, S2, w2⟩ y ny _ => ?_
          obtain ⟨o', R3, S3, hb⟩ := R2.shr e.vs d.pure
          have n' : Den X.K Z.r H2 (Bx B o e.vs) v d := Den.fr (f2.mono fun y z => .inl (R1.sub y z)) R1.bxok _ _ n
          obtain ⟨p1, e1, e2⟩ := sti_wr R3 (bx_keep hb (fun z => z) n') ny (w2.from (S2.trans S3))
          rw [s1] at e1
          cases e1
          exact e2
        | _ => simp only [exS, er] at w; exact (WrS.stk (g := G0) w).elim
    · exact absurd h Bool.false_ne_true
  | .apk i kx e, X, W, hp, O, hf, q, h, cv, rv => by
    unfold mS at h
    split at h
    · rename_i x p j sp nm ap v cp pos
      simp only [Bool.and_eq_true, decide_eq_true_eq] at h
      obtain ⟨rfl, h1, h2, h3, h4⟩ := h
      obtain ⟨n1, n2, n3, n4⟩ := name_vis h1
      have pl : ∀ a ∈ [v], plainE a = true := fun a ha => by
        obtain rfl := mem_one ha
        exact mE_plain h3
      refine ps_mono (ps_expr (pe_bm PySem.F.plainAttrs_list PySem.F.slot_list_append PySem.F.type_list_append mt_append (pe_ix (ixr_ow O.u) (pe_var n1 (by rw [O.sc]; exact n2) n3 n4) (ex_pe kx X W sc j O cv.l h2) (plain_ix (mE_plain h2))) (pa_cons (ex_pe e X W sc v O cv.r h3) pa_nil (star_cons (mE_plain h3))) rfl (few_args pl (by simp)) h4 (star_cons (mE_plain h3)) rfl) rfl) fun E σ H ⟨B, ρ, g, o, R, w⟩ => ?_
      cases er : ρ[i]? with
      | none => simp only [exS, er] at w; exact (WrS.stk (g := G0) w).elim
      | some s =>
        cases s with
        | ow2 d0 =>
          simp only [exS, er] at w
          obtain ⟨p0, qs, s1, op, s3⟩ := ow2_slot R er
          refine ⟨_, s1, ?_⟩
          refine ⟨Bx B o kx.vs, ρ, g, R.pre kx.vs, ?_⟩
          refine (lif_wr kx.vs R w).mono fun q g1 H1 f1 a1 ⟨R1, S1, w1⟩ y ny _ => ?_
          obtain ⟨n, ys, hk, hd, w1⟩ := kidL_wr w1
          obtain ⟨p1, qs1, s1', op1, s31⟩ := ow2_slot R1 er
          rw [s1] at s1'
          cases s1'
          obtain ⟨qn, q1, q2, q3⟩ := kid_at (Q := fun v H2 => tyV X.K "list" v H2 ∧ (tCons (tM (cc X) Z W e.vs e.fresh (ev e)) tNil) σ H2 fun xs H3 => rAppend v xs H3 fun _ H4 => E.nx σ H4) s31 ny hk hd
          refine q3 ⟨?_, ?_⟩
          · cases q2 with
            | lst q4 _ => exact .inl ⟨rfl, _, SqL.of q4⟩
          · refine ⟨Bx B o e.vs, ρ, g1, R1.pre e.vs, ?_⟩
            refine (lif_wr e.vs R1 (w1.from S1)).mono fun d g2 H2 f2 a2 ⟨R2, S2, w2⟩ v n' _ => ?_
            obtain ⟨o', R3, S3, hb⟩ := R2.shr e.vs d.pure
            obtain ⟨p2, qs2, qn2, us, e1, e2, e3, e4, e5, e6, e7⟩ := apk_wr er R3 hk hd (bx_keep hb (fun z => z) n') (w2.from (S2.trans S3))
            rw [s1] at e1
            cases e1
            have op2 : qs2 = qs1 := by
              obtain ⟨pp, qq, z1, z2, z3⟩ := ow2_slot R2 er
              rw [op1] at z2
              cases z2
              exact ow2_uq e7 z3
            subst op2
            rw [q1] at e3
            cases e3
            exact ⟨_, _, _, rfl, rfl, e4, e5, e6⟩
        | _ => simp only [exS, er] at w; exact (WrS.stk (g := G0) w).elim
    · exact absurd h Bool.false_ne_true
  | .stf i kx e, X, W, hp, O, hf, q, h, cv, rv => by
    unfold mS at h
    split at h
    · rename_i x p j sp v pos
      simp only [Bool.and_eq_true] at h
      obtain ⟨h1, h2, h3⟩ := h
      obtain ⟨n1, n2, n3, n4⟩ := name_vis h1
      have hu : X.A.units + 1 < cLine := by have := O.u; omega
      refine ps_mono (ps_asg (ex_pe e X W sc v O cv.l h3) (pg_sub (pe_var n1 (by rw [O.sc]; exact n2) n3 n4) (ex_pe kx X W sc j O cv.r h2) (pset_or set_list (set_dict hu)) (asg_sub (mE_plain h2) _)) (no_swap_sub v (.Name x p) j sp pos.line X.env) (by cases v <;> rfl)) fun E σ H ⟨B, ρ, g, o, R, w⟩ => ?_
      cases er : ρ[i]? with
      | none => simp only [exS, er] at w; exact (WrS.stk (g := G0) w).elim
      | some s =>
        cases s with
        | ow2 d0 =>
          simp only [exS, er] at w
          obtain ⟨p0, qs, s1, op, s3⟩ := ow2_slot R er
          refine ⟨Bx B o e.vs, ρ, g, R.pre e.vs, ?_⟩
          refine (lif_wr e.vs R w).mono fun d g1 H1 f1 a1 ⟨R1, S1, w1⟩ v n fs => ?_
          refine ⟨_, s1, ?_⟩
          refine ⟨Bx B o kx.vs, ρ, g1, R1.pre kx.vs, ?_⟩
          refine (lif_wr2 kx.vs R1 S1 w1).mono fun q g2 H2 f2 a2 ⟨R2, w2⟩ y ny _ => ?_
          obtain ⟨c, w2⟩ := WrS.grd w2
          simp only [Bool.and_eq_true, decide_eq_true_eq] at c
          obtain ⟨c1, c2, c3, c4⟩ := c
          obtain ⟨pn, rfl, np⟩ := fs.a c1 c2
          have n' : Den X.K Z.r H2 (Bx B o e.vs) (.ref pn) d := Den.fr (f2.mono fun y z => .inl (R1.sub y z)) R1.bxok _ _ n
          cases hk : putKid d0 q d with
          | none => rw [hk] at w2; exact (WrS.stk (g := G0) w2).elim
          | some d' =>
            rw [hk] at w2
            exact stf_wr R R2 (f1.trans f2) er s1 op np n' c2 c3 c4 ny hk w2
        | _ => simp only [exS, er] at w; exact (WrS.stk (g := G0) w).elim
    · exact absurd h Bool.false_ne_true
  | .st2 i kx jx e, X, W, hp, O, hf, q, h, cv, rv => by
    unfold mS at h
    split at h
    · rename_i x p kk sp0 jj sp v pos
      simp only [Bool.and_eq_true] at h
      obtain ⟨h1, h2, h3, h4⟩ := h
      obtain ⟨n1, n2, n3, n4⟩ := name_vis h1
      refine ps_mono (ps_asg (ex_pe e X W sc v O cv.l h4) (pg_sub (pe_ix (ixr_ow O.u) (pe_var n1 (by rw [O.sc]; exact n2) n3 n4) (ex_pe kx X W sc kk O cv.r.l h2) (plain_ix (mE_plain h2))) (ex_pe jx X W sc jj O cv.r.r h3) set_list (asg_sub (mE_plain h3) _)) (no_swap_sub v (.Subscript (.Name x p) kk sp0) jj sp pos.line X.env) (by cases v <;> rfl)) fun E σ H ⟨B, ρ, g, o, R, w⟩ => ?_
      cases er : ρ[i]? with
      | none => simp only [exS, er] at w; exact (WrS.stk (g := G0) w).elim
      | some s =>
        cases s with
        | ow2 d0 =>
          simp only [exS, er] at w
          obtain ⟨p0, qs, s1, op, s3⟩ := ow2_slot R er
          refine ⟨Bx B o e.vs, ρ, g, R.pre e.vs, ?_⟩
          refine (lif_wr e.vs R w).mono fun d g1 H1 f1 a1 ⟨R1, S1, w1⟩ v nv _ => ?_
          refine ⟨_, s1, ?_⟩
          refine ⟨Bx B o kx.vs, ρ, g1, R1.pre kx.vs, ?_⟩
          refine (lif_wr kx.vs R1 (w1.from S1)).mono fun q g2 H2 f2 a2 ⟨R2, S2, w2⟩ y ny _ => ?_
          obtain ⟨n, ys, hk, hd, w2⟩ := kidL_wr w2
          obtain ⟨p1, qs1, s1', op1, s31⟩ := ow2_slot R2 er
          rw [s1] at s1'
          cases s1'
          obtain ⟨qn, q1, q2, q3⟩ := kid_at (Q := fun ov H2 => (tM (cc X) Z W jx.vs jx.fresh (ev jx)) σ H2 fun iv H3 => rSetL ov iv v H3 fun H4 => E.nx σ H4) s31 ny hk hd
          refine q3 ⟨Bx B o jx.vs, ρ, g2, R2.pre jx.vs, ?_⟩
          refine (lif_wr jx.vs R2 (w2.from S2)).mono fun jd g3 H3 f3 a3 ⟨R3, S3, w3⟩ z nz _ => ?_
          obtain ⟨o', R4, S4, hb⟩ := R3.shr e.vs d.pure
          have n' : Den X.K Z.r H3 (Bx B o e.vs) v d := Den.fr ((f2.trans f3).mono fun y z => .inl (R1.sub y z)) R1.bxok _ _ nv
          obtain ⟨p2, qs2, qn2, e1, e2, e3, e4⟩ := st2_wr er R4 hk hd (bx_keep hb (fun z => z) n') nz (w3.from (S3.trans S4))
          rw [s1] at e1
          cases e1
          have op2 : qs2 = qs1 := by
            obtain ⟨pp, qq, z1, z2, z3⟩ := ow2_slot R3 er
            rw [op1] at z2
            cases z2
            exact ow2_uq e3 z3
          subst op2
          rw [q1] at e2
          cases e2
          exact e4
        | _ => simp only [exS, er] at w; exact (WrS.stk (g := G0) w).elim
    · exact absurd h Bool.false_ne_true
  | .rse x nms es, X, W, hp, O, hf, q, h, cv, rv => by
    unfold mS at h
    split at h
    · rename_i y p v vs pos pos2
      simp only [Bool.and_eq_true, decide_eq_true_eq] at h
      obtain ⟨rfl, h1, h2⟩ := h
      obtain ⟨g1, g2, g3⟩ := glo_gl O h1
      have hk := rv.k (by simp [St.rses])
      have rs : RsOk X.prog X.w X.K X.mg X.base x nms := rv.r (x, nms) (by simp [St.rses])
      obtain ⟨C, fI, fd, ps, e1, e2, e3, e4, e5, el, e6⟩ := rs.ex
      have few := rs.few
      obtain ⟨st1, st2⟩ := nonempty_plain h2 (env := X.env) (pos := pos)
      refine ps_mono (ps_raise O.calm O.tk (pmk_oex e2 e3 e4 e6 (O.room.mono hk) e5 .nil (L2.passes_call (E := fun _ _ _ => False) O.tk fun _ _ _ _ h => h.elim) g1 e1 (exs_pa es X W sc (v :: vs) O cv h2) g2 st1 st2)) fun E σ H ⟨B, ρ, g, o, R, w⟩ => ?_
      simp only [exS] at w
      refine ⟨Bx B o es.vs, ρ, g, R.pre es.vs, (lif_wr es.vs R w).mono fun ds gg1 H1 f1 a1 ⟨R1, S1, w1⟩ us n => ?_⟩
      obtain ⟨c, w1⟩ := WrS.grd w1
      have c := of_decide_eq_true c
      have hl : us.length = nms.length := n.length.trans c
      have hl0 : us.length ≤ 1000 := by
        have : nms.length ≤ 900 := few
        omega
      refine ⟨hl0, fun a na => ⟨a, us ++ [], rfl, by simp; omega, by simp; omega, upd_same, fun H2 d nd ne kp ea ed => ⟨rfl, d, _, ea, ed, by rw [upd_ne ne] at nd; exact nd, ?_⟩⟩⟩
      have nd' : H1 d = none := by rw [upd_ne ne] at nd; exact nd
      have sm : Same H1 (upd (del H2 a) d (.xd (nms.zip (us ++ []).reverse))) := fun b ob hb => by
        have ba : b ≠ a := fun z => by rw [z, na] at hb; cases hb
        have bd : b ≠ d := fun z => by rw [z, nd'] at hb; cases hb
        rw [upd_ne bd, del_ne ba, kp b ba bd, upd_ne ba]; exact hb
      refine w1 σ _ _ _ R1.len (bok_same R1.bok sm) (at_same Z a1 sm) ((f1.mono fun y z => .inl z).trans (sameFr sm)) ⟨C, d, _, rfl, by rw [S_of]; exact e1, rfl, upd_same, ?_, ?_⟩
      · rw [List.map_map, List.map_fst_zip (by simp; omega)]
        symm
        conv => rhs; rw [← List.map_id nms]
        refine List.map_congr_left fun n _ => ?_
        show S n.cps.toList = n
        exact S_of n
      · rw [List.map_snd_zip (by simp; omega)]
        simp only [List.append_nil] at sm ⊢
        exact (DenL.ban (fun a ob _ _ m z => m (.inl z)) _ _ (DenL.fr (sameFr sm) R1.bxok _ _ n)).rev
    · exact absurd h Bool.false_ne_true
  | .tr bd x i hd tab, X, W, hp, O, hf, q, h, cv, rv => by
    unfold mS at h
    have tk := rv.t ⟨x, hd.ns, hd.ats, tab⟩ (by simp [St.tris])
    have rv' : Rv X k bd.rses bd.tris := by
      have := rv
      rw [St.rses, St.tris] at this
      exact this.tail
    have cv' : Cov X Z k bd.calls bd.globs := by
      have := cv
      rw [St.calls, St.globs] at this
      exact this
    obtain ⟨c, c1, c2⟩ := tk.ex
    split at h
    · rename_i body y p b0 su p2 p3
      simp only [Bool.and_eq_true, decide_eq_true_eq] at h
      obtain ⟨rfl, rfl, h1, h2, h3⟩ := h
      obtain ⟨g1, g2, g3⟩ := glo_gl O h1
      let T : Tri := ⟨x, hd.ns, hd.ats, tab⟩
      let ts : Addr → Value → Option Addr → TS := fun a cls dd D σ H => ∃ C dx anc k', cls = .ref C ∧ dd = some dx ∧ X.mg k' = some (.ref C) ∧ tab.lookup k' = some anc ∧ tSu (cc X) Z T none a C dx anc hd D σ H
      have hsu : ∀ (a : Addr) (oe : Obj) (cls : Value) (d : Option Addr) (pn : List (Addr × Obj)), Zc cls d oe → (∃ vs, oe.data = .fields vs) → PSs (X.suite a ((a, oe) :: pn)) (b0 :: su) (ts a cls d) := fun a oe cls d pn hz hf' => ⟨fun pins s σ H D I ⟨C, dx, anc, k', e1, e2, e3, e4, w⟩ => by
        subst e1 e2
        obtain ⟨C', q1, q2, q3, q4, q5, q6⟩ := c2 k' anc e4
        rw [e3] at q1
        cases q1
        exact (hs_ps (Z := Z) (t := T) (i := none) (v := none) (sc := sc) (pn := pn) ⟨O.sc, O.bn _ (by decide), q2, q3, q5, q6, hz, hf', fun n z => by cases z⟩ hd (b0 :: su) (fun _ z => z) (fun _ z => z) h3).run pins s σ H D I w⟩
      refine ps_mono (ps_try_many (tb := fun W' => tS (cc X) Z W' (exSs bd)) hp.s hp.f O.tk (fun W' pn xe tk' pz => sts_ps bd (X.tr pn xe) W' ⟨pz, hp.s, hp.f⟩ ⟨O.sc, O.nd, O.calm, O.room, tk', O.bn⟩ hf body h2 ⟨cv'.c, cv'.g⟩ ⟨rv'.r, rv'.k, rv'.t⟩) (.cons (ts := ts) (c := c) ⟨g1, g2, c1⟩ hsu .nil)) fun D σ H ⟨B, ρ, g, o, R, w⟩ => ⟨B, ρ, g, o, R, ?_⟩
      unfold exS at w
      refine try_wr w fun e anc σ' cls dd H' l b er ea hy hn => ?_
      obtain ⟨C, dx, fs, k1, k2, k3, k4, k5, k6⟩ := er
      obtain ⟨C', q1, q2, q3, q4, q5, q6⟩ := c2 _ anc ea
      have q1 : X.mg (S e.cls) = some (.ref C') := q1
      have k2 : X.mg (S e.cls) = some (.ref C) := k2
      rw [k2] at q1
      cases q1
      subst k1
      refine ⟨_, q4, fun hc a na => ?_, fun hc => hn hc⟩
      obtain ⟨d, hd1, hd2⟩ := hy hc
      exact ⟨C, dx, anc, _, rfl, k3, k2, ea, B, e, d, ⟨fun j z => by (cases z), k2, ⟨fs, k4, k5, k6⟩, ea, b⟩, hd1, hd2⟩
    · rename_i body y p n b0 su p2 p3
      simp only [Bool.and_eq_true, decide_eq_true_eq, Bool.not_eq_true'] at h
      obtain ⟨h4, h5, ⟨h6, h7⟩, rfl, h1, h2, h3⟩ := h
      obtain ⟨j, rfl, hj⟩ := Option.bind_eq_some_iff.mp h4
      obtain ⟨g1, g2, g3⟩ := glo_gl O h1
      let T : Tri := ⟨x, hd.ns, hd.ats, tab⟩
      let ts : Addr → Value → Option Addr → TS := fun a cls dd D σ H => ∃ C dx anc k', cls = .ref C ∧ dd = some dx ∧ X.mg k' = some (.ref C) ∧ tab.lookup k' = some anc ∧ tSu (cc X) Z T (some j) a C dx anc hd D σ H
      have hsu : ∀ (a : Addr) (oe : Obj) (cls : Value) (d : Option Addr) (pn : List (Addr × Obj)), Zc cls d oe → (∃ vs, oe.data = .fields vs) → PSs (X.suite a ((a, oe) :: pn)) (b0 :: su) (ts a cls d) := fun a oe cls d pn hz hf' => ⟨fun pins s σ H D I ⟨C, dx, anc, k', e1, e2, e3, e4, w⟩ => by
        subst e1 e2
        obtain ⟨C', q1, q2, q3, q4, q5, q6⟩ := c2 k' anc e4
        rw [e3] at q1
        cases q1
        exact (hs_ps (Z := Z) (t := T) (i := some j) (v := some n) (sc := sc) (pn := pn) ⟨O.sc, O.bn _ (by decide), q2, q3, q5, q6, hz, hf', fun m z => by
          cases z
          exact ⟨j, rfl, hj, h5, h6, h7⟩⟩ hd (b0 :: su) (fun _ z => z) (fun _ z => z) h3).run pins s σ H D I w⟩
      refine ps_mono (ps_try_as (tb := fun W' => tS (cc X) Z W' (exSs bd)) (ts := ts) (c := c) (i := j) hp.s hp.f O.nd hj (by show X.env.scope.names.lookup n = _; rw [O.sc]; exact h5) ⟨g1, g2, c1⟩ O.tk (fun W' pn xe tk' pz => sts_ps bd (X.tr pn xe) W' ⟨pz, hp.s, hp.f⟩ ⟨O.sc, O.nd, O.calm, O.room, tk', O.bn⟩ hf body h2 ⟨cv'.c, cv'.g⟩ ⟨rv'.r, rv'.k, rv'.t⟩) hsu) fun D σ H ⟨B, ρ, g, o, R, w⟩ => ⟨B, ρ, g, o, R, ?_⟩
      unfold exS at w
      refine try_wr w fun e anc σ' cls dd H' l b er ea hy hn => ?_
      obtain ⟨C, dx, fs, k1, k2, k3, k4, k5, k6⟩ := er
      obtain ⟨C', q1, q2, q3, q4, q5, q6⟩ := c2 _ anc ea
      have q1 : X.mg (S e.cls) = some (.ref C') := q1
      have k2 : X.mg (S e.cls) = some (.ref C) := k2
      rw [k2] at q1
      cases q1
      subst k1
      refine ⟨_, q4, fun hc a na => ?_, fun hc => hn hc⟩
      obtain ⟨d, hd1, hd2⟩ := hy hc
      refine ⟨C, dx, anc, _, rfl, k3, k2, ea, B, e, d, ⟨fun j' z => ?_, k2, ⟨fs, k4, k5, k6⟩, ea, b⟩, hd1, hd2⟩
      cases z
      exact List.getElem?_set_self (by rw [l]; exact (List.getElem?_eq_some_iff.mp hj).1)
    · exact absurd h Bool.false_ne_true
  | .exp e, X, W, hp, O, hf, q, h, cv, rv => by
    unfold mS at h
    split at h
    · rename_i v pos
      simp only [Bool.and_eq_true] at h
      refine ps_mono (ps_expr (ex_pe e X W sc v O cv h.1) (no_swap h.2 _ _ _)) fun E σ H ⟨B, ρ, g, o, R, w⟩ => ?_
      simp only [exS] at w
      exact ⟨Bx B o e.vs, ρ, g, R.pre e.vs, (lif_wr e.vs R w).mono fun d g1 H1 f1 a1 ⟨R1, S1, w1⟩ v n _ => w1 _ _ _ R1 S1⟩
    · exact absurd h Bool.false_ne_true
  | .ret e, X, W, hp, O, hf, q, h, cv, rv => by
    unfold mS at h
    split at h
    · rename_i v pos
      refine ps_mono (ps_ret (ex_pe e X W sc v O cv h)) fun E σ H ⟨B, ρ, g, o, R, w⟩ => ?_
      simp only [exS] at w
      exact ⟨Bx B o e.vs, ρ, g, R.pre e.vs, (lif_wr e.vs R w).mono fun d g1 H1 f1 a1 ⟨R1, S1, w1⟩ v n _ => w1 v H1 a1 S1.fr (bx_B n)⟩
    · exact absurd h Bool.false_ne_true
  | .ife c a b, X, W, hp, O, hf, q, h, cv, rv => by
    unfold mS at h
    split at h
    · rename_i c' a' b' pos
      simp only [Bool.and_eq_true] at h
      obtain ⟨h1, h2, h3⟩ := h
      refine ps_mono (ps_if (ex_pt c X W sc c' O cv.l h1) (sts_ps a X W hp O hf a' h2 cv.r.l rv.l) (sts_ps b X W hp O hf b' h3 cv.r.r rv.r')) fun E σ H ⟨B, ρ, g, o, R, w⟩ => ?_
      simp only [exS] at w
      refine ⟨Bx B o c.vs, ρ, g, R.pre c.vs, (lif_wr c.vs R w).mono fun kb g1 H1 f1 a1 ⟨R1, S1, w1⟩ => ?_⟩
      show if kb = true then _ else _
      cases kb with
      | true =>
        rw [if_pos rfl] at w1 ⊢
        exact ⟨B, ρ, g1, o, R1, w1.from S1⟩
      | false =>
        rw [if_neg Bool.false_ne_true] at w1 ⊢
        exact ⟨B, ρ, g1, o, R1, w1.from S1⟩
    · exact absurd h Bool.false_ne_true
  | .whl c b, X, W, hp, O, hf, q, h, cv, rv => by
    unfold mS at h
    split at h
    · rename_i c' b' pos
      simp only [Bool.and_eq_true] at h
      refine ps_mono (ps_while hp.p (ex_pt c X W sc c' O cv.l h.1) (sts_ps b X W hp O hf b' h.2 cv.r rv)) fun E σ H ⟨B, ρ, g, o, R, w⟩ => ?_
      simp only [exS] at w
      refine ⟨fun m σ H => ∃ ρ g o, Rel (cc X) Z B ρ σ g H o ∧ WrS (cc X) Z B W H o E (whlL (fun ρ => do asB (← ev c ρ)) (fun ρ => exSs b ρ) m ρ g), ⟨_, ρ, g, o, R, w⟩, ?_⟩
      rintro m σ1 H1 ⟨ρ1, g1, o1, R1, w1⟩
      cases m with
      | zero => exact (WrS.stk (g := G0) w1).elim
      | succ m =>
        rw [whlL] at w1
        refine ⟨Bx B o1 c.vs, ρ1, g1, R1.pre c.vs, (lif_wr c.vs R1 w1).mono fun kb g2 H2 f2 a2 ⟨R2, S2, w2⟩ => ?_⟩
        show if kb = true then _ else _
        cases kb with
        | false =>
          rw [if_neg Bool.false_ne_true] at w2 ⊢
          exact w2 _ _ _ R2 S2
        | true =>
          rw [if_pos rfl] at w2 ⊢
          refine ⟨_, fun σ' H' z => ⟨m, Nat.lt_succ_self m, z⟩, B, ρ1, g2, o1, R2, ?_⟩
          replace w2 := w2.from S2
          have w2 : WrS (cc X) Z B W H2 o1 E (M.bnd (exSs b ρ1) (fun u => match u with
            | .nx ρ' | .ct ρ' => whlL (fun ρ => do asB (← ev c ρ)) (fun ρ => exSs b ρ) m ρ'
            | .bk ρ' => pure (.nx ρ')
            | o => pure o) g2) := w2
          unfold M.bnd at w2
          cases eb : exSs b ρ1 g2 with
          | err x g3 => rw [eb] at w2; exact w2.elim
          | stuck => rw [eb] at w2; exact w2.elim
          | ok u g3 =>
            rw [eb] at w2
            cases u with
            | nx ρ' => exact fun σ' H' o' R' S' => ⟨ρ', g3, o', R', w2.from S'⟩
            | ct ρ' => exact fun σ' H' o' R' S' => ⟨ρ', g3, o', R', w2.from S'⟩
            | bk ρ' => exact w2
            | rt d => exact w2
            | ex e ρ' => exact w2
    · exact absurd h Bool.false_ne_true
  | .for_ tg it b, X, W, hp, O, hf, q, h, cv, rv => by
    unfold mS at h
    split at h
    · rename_i t i' b' pos
      simp only [Bool.and_eq_true] at h
      obtain ⟨h1, h2, h3, h4⟩ := h
      have pg := pg_of (X := X) (sc := sc) O.nd O.calm (fun x e => by rw [O.sc]; exact e) (fun x e => ⟨by rw [O.sc]; exact e, hf x e⟩) tg t h3
      refine ps_mono (ps_for hp.p O.calm (it_pi it tg X W sc i' t O cv.l h2 h1 (tg_tup h1 h3)) pg (sts_ps b X W hp O hf b' h4 cv.r rv) (mI_fold h2)) fun E σ H ⟨B, ρ, g, o, R, w⟩ => ?_
      simp only [exS] at w
      refine ⟨Bx B o it.vs, ρ, g, R.pre it.vs, (lif_wr it.vs R w).mono fun ds g1 H1 f1 a1 ⟨R1, S1, w1⟩ J wd => ?_⟩
      obtain ⟨o', R2, S2, hb⟩ := R1.frz it.lk
      have WD : WalkD (cc X) Z (Cn B o') H1 J ds := wd (Cn B o') fun a ha => by
        have h := hb a ha
        cases it with
        | rng es => exact .inr rfl
        | _ => exact .inl h
      have wc0 := WD (Cn B o') fun a h => .inl h
      have moC : ∀ a, Mo Z o' a → Cn B o' a := fun a h => by
        rcases h with h | h
        · exact .inl (R.sub a h)
        · exact .inr h
      let Gd : Hp → Prop := fun Hi => Fr (Cn B o') H1 Hi ∧ BOk (Cn B o') Hi
      let Y : Nat → Hp → V → Hp → Prop := fun i Hi x H' => Same Hi H' ∧ ∀ C : Addr → Prop, (∀ a, C a → Cn B o' a ∨ H1 a = none) → Fr C H1 Hi → BOk C Hi → ∃ d, ds[i]? = some d ∧ Den X.K Z.r H' C x d
      have wk : Walk J ds.length Gd Y := ⟨fun i Hi hi gd => wc0.goes i Hi hi gd.1, fun Hi gd => wc0.stops Hi gd.1, fun i Hi x H' hi gd y => ⟨(wc0.yields i Hi x H' hi gd.1 gd.2 y).1, fun C hC fC bC => ((WD C hC).yields i Hi x H' hi fC bC y).2⟩⟩
      let body : D → List Sl → M Out := fun d ρ => do exSs b (← bindT tg d ρ)
      let Pv : Nat → L2.St → Hp → Prop := fun i σi Hi => ∃ ρi gi oi, Rel (cc X) Z B ρi σi gi Hi oi ∧ Stp Z H1 o' Hi oi ∧ WrS (cc X) Z B W H1 o' E (forL body (ds.drop i) ρi gi)
      refine for_it wk Pv ⟨_, g1, o', R2, .refl R2, by rw [List.drop_zero]; exact w1.from (S1.trans S2)⟩ ?_ ?_ ?_
      · rintro i σi Hi _ ⟨ρi, gi, oi, Ri, Si, _⟩
        refine ⟨Si.fr.mono moC, fun a ha => ?_⟩
        rcases ha with ha | ⟨l, ha⟩
        · exact Ri.bok a ha
        · exact Si.mu a (.inr ⟨l, ha⟩)
      · rintro i x σi Hi H' hi ⟨ρi, gi, oi, Ri, Si, wi⟩ ⟨sm, hY⟩
        obtain ⟨d, hd, hx⟩ := hY (fun a => Cn B o' a ∨ Cn B oi a) (fun a ha => by
          rcases ha with ha | ha | ⟨l, ha⟩
          · exact .inl ha
          · exact .inl (.inl ha)
          · rcases Si.lt a (.inr ⟨l, ha⟩) with z | z
            · exact .inl (moC a z)
            · exact .inr z) (Si.fr.mono fun a h => .inl (moC a h)) (fun a ha => by
          rcases ha with (ha | ⟨l, ha⟩) | ha
          · exact Ri.bok a ha
          · exact Si.mu a (.inr ⟨l, ha⟩)
          · exact Ri.cok a ha)
        have hx' : Den X.K Z.r H' (Cn B oi) x d := Den.ban (fun a ob _ _ n m => n (.inr m)) _ _ hx
        have ed : ds.drop i = d :: ds.drop (i + 1) := by
          have hlt := (List.getElem?_eq_some_iff.mp hd).1
          rw [List.drop_eq_getElem_cons hlt, (List.getElem?_eq_some_iff.mp hd).2]
        rw [ed] at wi
        have wi : WrS (cc X) Z B W H1 o' E (M.bnd (M.bnd (bindT tg d ρi) fun r => exSs b r) (fun u => match u with
          | .nx ρ' | .ct ρ' => forL body (ds.drop (i + 1)) ρ'
          | .bk ρ' => pure (.nx ρ')
          | o => pure o) gi) := wi
        have Ri' := Ri.step (sameFr sm) (at_same Z Ri.at' sm)
        have Si' := Si.trans (Ri.stp (sameFr sm) (at_same Z Ri.at' sm))
        rcases pr_bindT tg d ρi gi with ⟨ρ2, eb⟩ | eb
        · refine rel_bindT (N := X.N) (sc := sc) rfl tg d x ρi σi gi oi ρ2 gi t _ h3 Ri' eb hx' fun σ2 o2 R3 S3 _ => ⟨B, ρ2, gi, o2, R3, ?_⟩
          rw [bnd_bnd eb] at wi
          unfold M.bnd at wi
          have S4 := Si'.trans S3
          cases es : exSs b ρ2 gi with
          | err x g3 => rw [es] at wi; exact wi.elim
          | stuck => rw [es] at wi; exact wi.elim
          | ok u g3 =>
            rw [es] at wi
            cases u with
            | nx ρ' => exact fun σ' H'' o'' R' S' => ⟨ρ', g3, o'', R', S4.trans S', wi⟩
            | ct ρ' => exact fun σ' H'' o'' R' S' => ⟨ρ', g3, o'', R', S4.trans S', wi⟩
            | bk ρ' => exact WrS.from wi S4
            | rt d => exact WrS.from wi S4
            | ex e ρ' => exact WrS.from wi S4
        · unfold M.bnd at wi
          rw [eb] at wi
          exact wi.elim
      · rintro σn Hn ⟨ρn, gn, on, Rn, Sn, wn⟩
        rw [List.drop_length] at wn
        exact wn _ _ _ Rn Sn
    · exact absurd h Bool.false_ne_true
  | .brk, X, W, hp, O, hf, q, h, cv, rv => by
    unfold mS at h
    split at h
    · exact ps_mono ps_break fun E σ H ⟨B, ρ, g, o, R, w⟩ => by
        simp only [exS] at w
        exact w _ _ _ R (.refl R)
    · exact absurd h Bool.false_ne_true
  | .cnt, X, W, hp, O, hf, q, h, cv, rv => by
    unfold mS at h
    split at h
    · exact ps_mono ps_continue fun E σ H ⟨B, ρ, g, o, R, w⟩ => by
        simp only [exS] at w
        exact w _ _ _ R (.refl R)
    · exact absurd h Bool.false_ne_true
  | .pas, X, W, hp, O, hf, q, h, cv, rv => by
    unfold mS at h
    split at h
    · exact ps_mono ps_pass fun E σ H ⟨B, ρ, g, o, R, w⟩ => by
        simp only [exS] at w
        exact w _ _ _ R (.refl R)
    · exact absurd h Bool.false_ne_true
theorem sts_ps : ∀ (s : Sts) (X : Cx) (W : WX) (hp : Pz X) (O : XOk X Z W k sc) (hf : ∀ x, sc.names.lookup x = some .cell → X.fn x = true) (a : List Stmt), mSs X.N sc s a = true → Cov X Z k s.calls s.globs → Rv X k s.rses s.tris → PSs X a (tS (cc X) Z W (exSs s))
  | .nil, X, W, hp, O, hf, [], h, cv, rv => pss_mono pss_nil fun E σ H ⟨B, ρ, g, o, R, w⟩ => by
      simp only [exSs] at w
      exact w _ _ _ R (.refl R)
  | .nil, X, W, hp, O, hf, _ :: _, h, cv, rv => by simp [mSs] at h
  | .cons _ _, X, W, hp, O, hf, [], h, cv, rv => by simp [mSs] at h
  | .cons s ss, X, W, hp, O, hf, a :: as, h, cv, rv => by
    simp only [mSs, Bool.and_eq_true] at h
    refine pss_mono (pss_cons (st_ps s X W hp O hf a h.1 cv.l rv.l) (sts_ps ss X W hp O hf as h.2 cv.r rv.r')) fun E σ H ⟨B, ρ, g, o, R, w⟩ => ⟨B, ρ, g, o, R, ?_⟩
    have w : WrS (cc X) Z B W H o E (M.bnd (exS s ρ) (fun u => match u with
      | .nx ρ' => exSs ss ρ'
      | o => pure o) g) := by rw [exSs] at w; exact w
    unfold M.bnd at w
    cases eb : exS s ρ g with
    | err x g3 => rw [eb] at w; exact w.elim
    | stuck => rw [eb] at w; exact w.elim
    | ok u g3 =>
      rw [eb] at w
      cases u with
      | nx ρ' => exact fun σ' H' o' R' S' => ⟨B, ρ', g3, o', R', w.from S'⟩
      | ct ρ' => exact w
      | bk ρ' => exact w
      | rt d => exact w
      | ex e ρ' => exact w
end
end
end TI
set_option Elab.async false
set_option linter.all false
set_option maxRecDepth 100000
set_option maxHeartbeats 8000000
/-! a def keeps what its tree function says -/
namespace TI
open PySem PySem.Spec PyProof.Rows L2
/-- a statement ends, with an exception as one of its ends -/
def NE {α : Type} (m : M α) : Prop := ∀ g e g', m g ≠ .err e g'
theorem NE.ret {α : Type} {a : α} : NE (pure a : M α) := fun g e g' h => by cases h
theorem NE.stk {α : Type} : NE (M.stk : M α) := fun g e g' h => by cases h
theorem NE.grd {α : Type} {c : Bool} {m : M α} (h : NE m) : NE (grd c m) := by
  unfold TI.grd
  split
  · exact h
  · exact .stk
theorem NE.bind {α β : Type} {m : M α} {f : α → M β} (h : NE m) (k : ∀ a, NE (f a)) : NE (m >>= f) := fun g e g' q => by
  have q : M.bnd m f g = .err e g' := q
  unfold M.bnd at q
  cases em : m g with
  | ok a g1 => rw [em] at q; exact k a g1 e g' q
  | err x g1 => exact h g x g1 em
  | stuck => rw [em] at q; cases q
theorem NE.pr {α : Type} {m : M α} (h : Pr m) : NE m := fun g e g' q => by
  rcases h g with ⟨a, h⟩ | h <;> rw [h] at q <;> cases q
theorem NE.lif {α : Type} {m : M α} {ρ : List Sl} {k : α → M Out} (h : ∀ a, NE (k a)) : NE (lif m ρ k) := fun g e g' q => by
  unfold TI.lif at q
  cases em : m g with
  | ok a g1 => rw [em] at q; exact h a g1 e g' q
  | err x g1 => rw [em] at q; cases q
  | stuck => rw [em] at q; cases q
theorem ne_app {ρ : List Sl} {i : Nat} {d : D} : NE (appD ρ i d) := by
  unfold appD
  split <;> first | exact .grd .ret | exact .stk
theorem ne_sti {ρ : List Sl} {i : Nat} {q d : D} : NE (stiD ρ i q d) := by
  unfold stiD
  repeat' split
  all_goals first | exact .grd .ret | exact .ret | exact .stk
theorem ne_whl {c : List Sl → M Bool} {b : List Sl → M Out} (h : ∀ ρ, NE (b ρ)) : ∀ n ρ, NE (whlL c b n ρ)
  | 0, ρ => .stk
  | n + 1, ρ => by
    unfold whlL
    refine .lif fun k => ?_
    split
    · refine .bind (h ρ) fun u => ?_
      cases u with
      | nx ρ' => exact ne_whl h n ρ'
      | ct ρ' => exact ne_whl h n ρ'
      | _ => exact .ret
    · exact .ret
theorem ne_for {b : D → List Sl → M Out} (h : ∀ d ρ, NE (b d ρ)) : ∀ ds ρ, NE (forL b ds ρ)
  | [], ρ => .ret
  | d :: ds, ρ => by
    unfold forL
    refine .bind (h d ρ) fun u => ?_
    cases u with
    | nx ρ' => exact ne_for h ds ρ'
    | ct ρ' => exact ne_for h ds ρ'
    | _ => exact .ret
theorem ne_kid {d q : D} {k : Nat → List D → M Out} (h : ∀ n ys, NE (k n ys)) : NE (kidL d q k) := by
  unfold kidL
  repeat' split
  all_goals first | exact h _ _ | exact .stk
theorem ne_apk {ρ : List Sl} {i n : Nat} {ys : List D} {x : D} : NE (apkD ρ i n ys x) := by
  unfold apkD
  split <;> first | exact .grd .ret | exact .stk
theorem ne_st2 {ρ : List Sl} {i n : Nat} {ys : List D} {q x : D} : NE (st2D ρ i n ys q x) := by
  unfold st2D
  repeat' split
  all_goals first | exact .ret | exact .stk
mutual
theorem ne_exS : ∀ (s : St) (ρ : List Sl), NE (exS s ρ)
  | .set 0 i e, ρ => by unfold exS; exact .lif fun d => .ret
  | .set 1 i e, ρ => by unfold exS; exact .lif fun d => .grd .ret
  | .set (_ + 2) i e, ρ => by unfold exS; exact .lif fun d => .grd .ret
  | .unp ts e, ρ => by unfold exS; exact .lif fun d => .bind (.pr (pr_bindT _ _ _)) fun _ => .ret
  | .aug i o e, ρ => by
    unfold exS
    split
    · refine .lif fun d => ?_
      split <;> first | exact .ret | exact .stk
    · exact .stk
  | .app i e, ρ => by
    unfold exS
    split
    · exact .lif fun d => ne_app
    · exact .stk
  | .sti i k e, ρ => by
    unfold exS
    split
    · exact .lif fun d => .lif fun q => ne_sti
    · exact .stk
  | .apk i k e, ρ => by
    unfold exS
    split
    · exact .lif fun d => ne_kid fun n ys => .lif fun x => ne_apk
    · exact .stk
  | .stf i k e, ρ => by
    unfold exS
    split
    · refine .lif fun d => .lif fun q => .grd ?_
      split <;> first | exact .ret | exact .stk
    · exact .stk
  | .st2 i k j e, ρ => by
    unfold exS
    split
    · exact .lif fun d => .lif fun q => ne_kid fun n ys => .lif fun x => ne_st2
    · exact .stk
  | .rse x nms es, ρ => by unfold exS; exact .lif fun d => .grd .ret
  | .tr b x i h tab, ρ => by
    unfold exS
    refine .bind (ne_exSs b ρ) fun u => ?_
    cases u with
    | ex e ρ' =>
      simp only [tryE]
      split
      · split
        · split <;> first | exact .ret | exact .stk
        · exact .ret
      · exact .stk
    | _ => exact .ret
  | .exp e, ρ => by unfold exS; exact .lif fun d => .ret
  | .ret e, ρ => by unfold exS; exact .lif fun d => .ret
  | .ife c a b, ρ => by
    unfold exS
    refine .lif fun k => ?_
    split
    · exact ne_exSs a ρ
    · exact ne_exSs b ρ
  | .whl c b, ρ => by unfold exS; exact ne_whl (fun ρ => ne_exSs b ρ) _ _
  | .for_ tg it b, ρ => by unfold exS; exact .lif fun ds => ne_for (fun d ρ => .bind (.pr (pr_bindT _ _ _)) fun r => ne_exSs b r) _ _
  | .brk, ρ => by unfold exS; exact .ret
  | .cnt, ρ => by unfold exS; exact .ret
  | .pas, ρ => by unfold exS; exact .ret
theorem ne_exSs : ∀ (s : Sts) (ρ : List Sl), NE (exSs s ρ)
  | .nil, ρ => by unfold exSs; exact .ret
  | .cons s ss, ρ => by
    unfold exSs
    refine .bind (ne_exS s ρ) fun u => ?_
    cases u with
    | nx ρ' => exact ne_exSs ss ρ'
    | _ => exact .ret
end
section
variable {P : Program} {w : World} {K : PySem.W.Frag} {mg : Str → Option Value} {base : Heap} {Z : Spc} {k : Nat}
theorem start_rel {X : Cc} {B : Addr → Prop} {g : G} {H : Hp} {vs : List V} {ds : List D} {N : List Str} (hN : X.n = N.length) (sub : ∀ a, Z.F a → B a) (bok : BOk B H) (a : Z.At g H) (n : DenL X.K Z.r H B vs ds) (hl : vs.length ≤ N.length) :
    Rel X Z B (ds.map Sl.val ++ List.replicate (N.length - ds.length) Sl.no) (L2.start N vs) g H (fun _ => []) where
  sub := sub
  bok := bok
  at' := a
  len := by unfold L2.start; simp; omega
  lnr := by rw [n.length] at hl; simp; omega
  sl := fun i s e => by
    have cb : ∀ a, B a → Cn B (fun _ => []) a := fun a h => .inl h
    by_cases q : i < ds.length
    · rw [List.getElem?_append_left (by simpa using q), List.getElem?_map] at e
      obtain ⟨d, hd⟩ : ∃ d, ds[i]? = some d := ⟨ds[i], List.getElem?_eq_getElem q⟩
      rw [hd] at e
      cases e
      obtain ⟨v, h1, h2⟩ := n.get hd
      refine ⟨some v, ?_, .val (Den.ban (fun a ob _ _ n m => n (by
        rcases m with m | ⟨_, m⟩
        · exact m
        · simp at m)) _ _ h2)⟩
      unfold L2.start
      rw [List.getElem?_append_left (by rw [List.length_map, n.length]; exact q), List.getElem?_map, h1]
      rfl
    · rw [List.getElem?_append_right (by simpa using q)] at e
      have : s = .no := by
        rw [List.getElem?_replicate] at e
        split at e
        · cases e; rfl
        · cases e
      subst this
      have hi : i < N.length := by
        have := (List.getElem?_eq_some_iff.mp e).1
        simp at this; omega
      refine ⟨none, ?_, .no⟩
      unfold L2.start
      rw [List.getElem?_append_right (by rw [List.length_map]; have := n.length; omega), List.getElem?_replicate, if_pos (by rw [List.length_map]; have := n.length; omega)]
  out := fun _ _ => rfl
  dis := fun i j a h => by simp at h
  nd := fun i => .nil
  nB := fun i a h => by simp at h
theorem mo_nil {a : Addr} (h : Mo Z (fun _ => []) a) : Z.F a := by
  rcases h with h | ⟨_, h⟩
  · exact h
  · simp at h
/-- THE THEOREM for a def -/
theorem gfn {x qual : Str} {st : Stmt} {f : Addr} {fd : FuncData} {N ps : List Str} (F : Fun K x qual st f fd) (S : FnScope N ps (defScope st)) (b : Binds K fd ps []) (hm : mg x = some (.ref f)) (fn : Fn) (h1 : fn.n = ps.length) (h2 : fn.m = N.length)
    (hb : mSs N (defScope st) fn.body (defBody st) = true) (bn : ∀ x ∈ bnames, mg x = none) (hc : ∀ p ∈ fn.body.calls, GFn P w K mg base Z k p.1 p.2) (hg : ∀ p ∈ fn.body.globs, ∃ u v, mg p.1 = some u ∧ RelV v u ∧ ∀ H B, Den K Z.r H B v p.2) (hrs : ∀ p ∈ fn.body.rses, RsOk P w K mg base p.1 p.2) (hk : fn.body.rses ≠ [] → 2 ≤ k) (ht : ∀ p ∈ fn.body.tris, TrOk K mg p) :
    GFn P w K mg base Z (k + 1) x (run fn) := by
  refine ⟨f, fd, ps, hm, F.kp, b, F.okX S (fun vs H Q E h => h.1) (fun cdv A outer s H vs Q E hr h => ?_), fun ds g h => ?_⟩
  · obtain ⟨hl, B, ds, g, sub, bok, a, n, w'⟩ := h
    let X : Cx := cxOf (L2.CX P w) P w K mg base N qual (defScope st) f cdv A outer s H E
    have O : XOk X Z (fun cls d _ H => E cls d H) k (defScope st) := ⟨rfl, S.nd, rfl, hr, takes_of rfl rfl rfl rfl, bn⟩
    refine ⟨tS (cc X) Z (fun cls d _ H => E cls d H) (exSs fn.body), sts_ps fn.body X _ ⟨passes_of rfl, rfl, rfl⟩ O (fun _ _ => rfl) (defBody st) hb ⟨hc, hg⟩ ⟨hrs, hk, ht⟩, ?_⟩
    have hpl : ps.length ≤ N.length := by have := congrArg List.length S.pre; rw [List.length_take] at this; omega
    have R := start_rel (X := cc X) (N := N) rfl sub bok a n (by omega)
    refine ⟨B, _, g, _, R, ?_⟩
    have e0 : ds.length = fn.n := by rw [h1, ← hl]; exact n.length.symm
    unfold run at w'
    rw [if_pos e0] at w'
    have er : ds.map Sl.val ++ List.replicate (fn.m - fn.n) Sl.no = ds.map Sl.val ++ List.replicate (N.length - ds.length) Sl.no := by rw [h2, e0]
    rw [er] at w'
    have w' : Wr Z H _ _ (M.bnd (exSs fn.body (ds.map Sl.val ++ List.replicate (N.length - ds.length) Sl.no)) (fun u => match u with
      | .rt d => pure d
      | .nx _ => pure .non
      | .ex e _ => M.thr e
      | _ => M.stk) g) := w'
    unfold M.bnd at w'
    cases es : exSs fn.body (ds.map Sl.val ++ List.replicate (N.length - ds.length) Sl.no) g with
    | err e g' => rw [es] at w'
                  exact (ne_exSs fn.body _ g e g' es).elim
    | stuck => rw [es] at w'; exact w'.elim
    | ok u g' =>
      rw [es] at w'
      cases u with
      | rt d => exact fun v H' a' f' n' => w' H' (f'.mono fun _ h => mo_nil h) a' v n'
      | nx ρ' => exact fun σ' H' o' R' S' => w' H' (S'.fr.mono fun _ h => mo_nil h) R'.at' _ .non
      | ex e ρ' => exact fun σ' cls dd H' _ _ a' f' e' => w' H' (f'.mono fun _ h => mo_nil h) a' cls dd e'
      | bk ρ' => exact w'.elim
      | ct ρ' => exact w'.elim
  · unfold run
    rw [if_neg (by rw [h1]; exact h)]
    rfl
end
end TI
set_option Elab.async false
set_option linter.all false
set_option maxRecDepth 100000
/-! a def of which nothing is said; more room -/
namespace TI
open PySem PySem.Spec PyProof.Rows L2
section
variable {P : Program} {w : World} {K : PySem.W.Frag} {mg : Str → Option Value} {base : Heap} {Z : Spc} {j k : Nat}
theorem GFn.mono {x : Str} {f : Sem} (h : GFn P w K mg base Z j x f) (hk : j ≤ k) : GFn P w K mg base Z k x f := by
  obtain ⟨a, fd, ps, h1, h2, h3, h4, h5⟩ := h
  exact ⟨a, fd, ps, h1, h2, h3, h4.mono hk, h5⟩
theorem gfn_stk {x qual : Str} {st : Stmt} {f : Addr} {fd : FuncData} {N ps : List Str} (F : Fun K x qual st f fd) (S : FnScope N ps (defScope st)) (b : Binds K fd ps []) (hm : mg x = some (.ref f)) : GFn P w K mg base Z 1 x (fun _ => M.stk) :=
  ⟨f, fd, ps, hm, F.kp, b, F.okX S (fun vs H Q E h => h.1) (fun cdv A outer s H vs Q E hr h => by
    obtain ⟨_, _, _, _, _, _, _, _, w'⟩ := h
    exact w'.elim), fun _ _ _ => rfl⟩
/-- what the top has left of a def -/
def FnAt (K : PySem.W.Frag) (mg : Str → Option Value) (x : Str) (st : Stmt) (ps : List Str) : Prop := ∃ f fd, Fun K x x st f fd ∧ Binds K fd ps [] ∧ mg x = some (.ref f)
end
end TI
namespace TI
open PySem PySem.Spec PyProof.Rows L2
theorem fnAt_mk {K : PySem.W.Frag} {mg : Str → Option Value} {h : Heap} (X : K.In h) (G : h.Ns mainGlobals mg) {x : Str} {st : Stmt} {ps : List Str} {f : Addr} {oc : Value} {od an : Option Addr} {osl : Array (Option Value)} {kV doc pm cdv ct : Value}
    (hb : ∀ (kV doc pm : Value) (an : Option Addr) (cdv ct : Value) (us : List Value), us.length = ps.length → bindArgs (PySem.W.fnOf x x (defArgs st) (defBody st) (defScope st) .none kV doc pm an cdv ct) ⟨us, []⟩ = pure (ps.zip us))
    (a : PySem.W.nsIn K mainGlobals x = some (some (.ref f)))
    (l : K.lookup f = some ⟨oc, od, .func (PySem.W.fnOf x x (defArgs st) (defBody st) (defScope st) .none kV doc pm an cdv ct), osl⟩)
    (c : PySem.W.codeIn K cdv x = true) (k : PySem.W.keepIn K (.ref f) = true) : FnAt K mg x st ps :=
  have F := fun_mk (st := st) l c k
  ⟨f, _, F, F.binds hb, PySem.W.mg_of X G a⟩
end TI
set_option Elab.async false
set_option linter.all false
set_option maxRecDepth 100000
set_option maxHeartbeats 4000000
/-! reckoning with terms -/
namespace TI
open PySem L2
theorem rngD_eq (n : Nat) : ∀ lo c : Int, rngD lo c n = (List.range n).map fun k : Nat => D.int (lo + c * k) := by
  induction n with
  | zero => intro lo c; rfl
  | succ n ih =>
    intro lo c
    unfold rngD
    rw [ih, List.range_succ_eq_map, List.map_cons, List.map_map]
    congr 1
    · simp
    · refine List.map_congr_left fun k _ => ?_
      show D.int _ = D.int _
      congr 1
      rw [Int.natCast_succ, Int.mul_add]; omega
theorem rngD0 (n : Nat) : rngD 0 1 n = (List.range n).map fun k : Nat => D.int k := by
  rw [rngD_eq]; simp
theorem smallN {n : Nat} (h : n ≤ line) : smallB (n : Int) = true := by
  unfold smallB line at *
  simp; omega
theorem compL_pure {α β γ : Type} {f : α → M (Option β)} {g : γ → α} (r : γ → Option β) : ∀ (l : List γ), (∀ x ∈ l, f (g x) = pure (r x)) → compL f (l.map g) = pure (l.filterMap r)
  | [], _ => rfl
  | x :: l, h => by
    rw [List.map_cons]
    unfold compL
    rw [h x (by simp), compL_pure r l fun y hy => h y (List.mem_cons_of_mem _ hy)]
    simp only [pure_bind]
    cases e : r x <;> simp [e]
theorem compL_map {α β γ : Type} {f : α → M (Option β)} {g : γ → α} (r : γ → β) {l : List γ} (h : ∀ x ∈ l, f (g x) = pure (some (r x))) : compL f (l.map g) = pure (l.map r) := by
  rw [compL_pure (fun x => some (r x)) l h]; simp
theorem compL_fil {α β γ : Type} {f : α → M (Option β)} {g : γ → α} (c : γ → Bool) (r : γ → β) {l : List γ} (h : ∀ x ∈ l, f (g x) = pure (if c x = true then some (r x) else none)) : compL f (l.map g) = pure ((l.filter c).map r) := by
  rw [compL_pure _ l h]
  congr 1
  induction l with
  | nil => rfl
  | cons x l ih =>
    have ih := ih fun y hy => h y (List.mem_cons_of_mem _ hy)
    cases e : c x <;> simp [e, ih]
/-- a loop by its turns: what holds ahead of turn i -/
theorem forL_inv {b : D → List Sl → M Out} {ds : List D} (I : Nat → List Sl → Prop) {ρ : List Sl} (h0 : I 0 ρ)
    (step : ∀ i (h : i < ds.length) ρ, I i ρ → ∃ ρ', (b ds[i] ρ = pure (.nx ρ') ∨ b ds[i] ρ = pure (.ct ρ')) ∧ I (i + 1) ρ') : ∃ ρ', forL b ds ρ = pure (.nx ρ') ∧ I ds.length ρ' := by
  induction ds generalizing I ρ with
  | nil => exact ⟨ρ, rfl, h0⟩
  | cons d ds ih =>
    obtain ⟨ρ', e, h1⟩ := step 0 (by simp) ρ h0
    obtain ⟨ρ2, e2, h2⟩ := ih (fun i => I (i + 1)) h1 fun i h ρ hi => step (i + 1) (by simpa using h) ρ hi
    refine ⟨ρ2, ?_, h2⟩
    unfold forL
    rcases e with e | e <;> rw [show b d ρ = _ from e] <;> simpa using e2
/-- .. and one that may end ahead of its time -/
theorem forL_ex {b : D → List Sl → M Out} {ds : List D} (I : Nat → List Sl → Prop) (E : Out → Prop) {ρ : List Sl} (h0 : I 0 ρ)
    (step : ∀ i (h : i < ds.length) ρ, I i ρ → ∃ u, b ds[i] ρ = pure u ∧ match u with
      | .nx ρ' | .ct ρ' => I (i + 1) ρ'
      | .bk ρ' => E (.nx ρ')
      | u => E u) : ∃ u, forL b ds ρ = pure u ∧ (E u ∨ ∃ ρ', u = .nx ρ' ∧ I ds.length ρ') := by
  induction ds generalizing I ρ with
  | nil => exact ⟨_, rfl, .inr ⟨ρ, rfl, h0⟩⟩
  | cons d ds ih =>
    obtain ⟨u, e, h1⟩ := step 0 (by simp) ρ h0
    have e : b d ρ = pure u := e
    have go : ∀ ρ', I 1 ρ' → ∃ u, forL b ds ρ' = pure u ∧ (E u ∨ ∃ ρ2, u = .nx ρ2 ∧ I (ds.length + 1) ρ2) := fun ρ' h1 => ih (fun i => I (i + 1)) h1 fun i h ρ hi => step (i + 1) (by simpa using h) ρ hi
    unfold forL
    rw [e]
    cases u with
    | nx ρ' => simpa using go ρ' h1
    | ct ρ' => simpa using go ρ' h1
    | bk ρ' => exact ⟨_, rfl, .inl h1⟩
    | rt d => exact ⟨_, rfl, .inl h1⟩
    | ex e ρ' => exact ⟨_, rfl, .inl h1⟩
theorem whlL_inv {c : List Sl → M Bool} {b : List Sl → M Out} (I : Nat → List Sl → Prop) (E : List Sl → Prop)
    (step : ∀ n ρ, I n ρ → (c ρ = pure false ∧ E ρ) ∨ ∃ ρ' m, c ρ = pure true ∧ (b ρ = pure (.nx ρ') ∨ b ρ = pure (.ct ρ')) ∧ m < n ∧ I m ρ') : ∀ (k n : Nat) (ρ : List Sl), I n ρ → n < k → ∃ ρ', whlL c b k ρ = pure (.nx ρ') ∧ E ρ'
  | 0, n, ρ, _, h => by omega
  | k + 1, n, ρ, h, hk => by
    unfold whlL
    rcases step n ρ h with ⟨e, h⟩ | ⟨ρ', m, e, eb, hm, h⟩
    · rw [e]; exact ⟨ρ, rfl, h⟩
    · rw [e]
      obtain ⟨ρ2, e2, h2⟩ := whlL_inv I E step k m ρ' h (by omega)
      refine ⟨ρ2, ?_, h2⟩
      rcases eb with eb | eb <;> simp [eb, e2]
/-! ### slices and subscripts -/
theorem cutL_from {α : Type} (xs : List α) (k : Nat) : cutL xs (some (k : Int)) none = xs.drop k := by
  unfold cutL
  rw [HT.sIx_nat, HT.sIx_none]
  by_cases h : k ≤ xs.length
  · rw [Nat.min_eq_left h]
    exact List.take_of_length_le (by simp)
  · rw [Nat.min_eq_right (by omega), List.drop_length, List.drop_of_length_le (by omega)]; simp
theorem cutL_to {α : Type} (xs : List α) (k : Nat) : cutL xs none (some (k : Int)) = xs.take k := by
  unfold cutL
  rw [HT.sIx_nat, HT.sIx_none]
  simp only [List.drop_zero, Nat.sub_zero]
  by_cases h : k ≤ xs.length
  · rw [Nat.min_eq_left h]
  · rw [Nat.min_eq_right (by omega), List.take_of_length_le (Nat.le_refl _), List.take_of_length_le (by omega)]
theorem cutL_ft {α : Type} (xs : List α) (k j : Nat) : cutL xs (some (k : Int)) (some (j : Int)) = (xs.drop k).take (j - k) := by
  unfold cutL
  rw [HT.sIx_nat, HT.sIx_nat]
  by_cases h : k ≤ xs.length
  · rw [Nat.min_eq_left h]
    by_cases h2 : j ≤ xs.length
    · rw [Nat.min_eq_left h2]
    · rw [Nat.min_eq_right (by omega), List.take_of_length_le (by simp), List.take_of_length_le (by simp; omega)]
  · rw [Nat.min_eq_right (show xs.length ≤ k by omega), List.drop_length, List.drop_of_length_le (show xs.length ≤ k by omega)]; simp
theorem cutL_part {α : Type} (xs : List α) (k m : Nat) : cutL xs (some (k : Int)) (some ((k : Int) + (m : Int))) = (xs.drop k).take m := by
  rw [← Int.natCast_add, cutL_ft]; congr 1; omega
theorem atI_n {α : Type} {xs : List α} {j : Nat} (h : j < xs.length) : atI xs (j : Int) = some xs[j] := atI_nat (List.getElem?_eq_getElem h)
theorem intsOf_map {γ : Type} (f : γ → Int) : ∀ l : List γ, intsOf (l.map fun x => D.int (f x)) = some (l.map f)
  | [] => rfl
  | x :: l => by show (intsOf (l.map fun x => D.int (f x))).map (f x :: ·) = _; rw [intsOf_map f l]; rfl
theorem strsOf_map {γ : Type} (f : γ → List Nat) : ∀ l : List γ, strsOf (l.map fun x => D.str (f x)) = some (l.map f)
  | [] => rfl
  | x :: l => by show (strsOf (l.map fun x => D.str (f x))).map (f x :: ·) = _; rw [strsOf_map f l]; rfl
theorem pureL_all : ∀ {ds : List D}, (∀ d ∈ ds, d.pure = true) → D.pureL ds = true
  | [], _ => rfl
  | d :: ds, h => by unfold D.pureL; rw [h d (by simp), pureL_all fun x hx => h x (List.mem_cons_of_mem _ hx)]; rfl
theorem pureL_map {γ : Type} (f : γ → D) (l : List γ) (h : ∀ x ∈ l, (f x).pure = true) : D.pureL (l.map f) = true := pureL_all fun d hd => by
  obtain ⟨x, hx, rfl⟩ := List.mem_map.mp hd
  exact h x hx
theorem joinS_nil : ∀ l : List (List Nat), joinS [] l = l.flatten
  | [] => rfl
  | [x] => by simp [joinS]
  | x :: y :: r => by unfold joinS; rw [joinS_nil (y :: r)]; simp
theorem sumLen_flat : ∀ l : List (List Nat), sumLen l = l.flatten.length
  | [] => rfl
  | x :: r => by unfold sumLen; rw [sumLen_flat r]; simp
theorem zipD_map {γ δ : Type} (f : γ → D) (g : δ → D) : ∀ (l : List γ) (k : List δ), zipD (l.map f) (k.map g) = (l.zip k).map fun p => .tup [f p.1, g p.2]
  | [], _ => by cases ‹List δ› <;> rfl
  | _ :: _, [] => rfl
  | x :: l, y :: k => by simp [zipD, zipD_map f g l k]
theorem enum_map {γ : Type} (f : γ → D) : ∀ (l : List γ) (n : Nat), enumFrom' n (l.map f) = (l.zipIdx n).map fun p => .tup [.int (p.2 : Int), f p.1]
  | [], _ => rfl
  | x :: l, n => by
    rw [List.map_cons, List.zipIdx_cons, List.map_cons]
    unfold enumFrom'
    rw [enum_map f l (n + 1)]
/-! ### sorting -/
theorem sortD_map {γ : Type} (f : γ → D) (le : γ → γ → Bool) (l : List γ) (h : ∀ a ∈ l, ∀ b ∈ l, le a b = leD (f a) (f b)) : sortD (l.map f) = (l.mergeSort le).map f :=
  (List.map_mergeSort h).symm
theorem srtOk_map {γ : Type} (f : γ → D) (l : List γ) (s : Nat × List Bool) (h : ∀ x ∈ l, shD (f x) = some s) : srtOk (l.map f) = true := by
  cases l with
  | nil => rfl
  | cons x l =>
    rw [List.map_cons]
    show ((shD (f x)).isSome && (l.map f).all fun e => decide (shD e = shD (f x))) = true
    rw [h x (by simp)]
    simp only [Option.isSome_some, Bool.true_and, List.all_eq_true, List.mem_map]
    rintro d ⟨y, hy, rfl⟩
    rw [h y (List.mem_cons_of_mem _ hy)]; simp
end TI
set_option Elab.async false
set_option linter.all false
set_option maxRecDepth 100000
set_option maxHeartbeats 4000000
/-! the evaluator by rewriting -/
namespace TI
open L2
open PySem (Operator CmpOp Const)
section
variable {ρ : List Sl} {d : D} {i j n : Nat} {a b c e : Ex} {es : Exs}
/-! ### terms -/
@[simp] theorem ev_var : ev (.var i) ρ = opt (vget ρ i) := by rw [ev]
@[simp] theorem ev_con {c : Const} : ev (.con c) ρ = conD c := by rw [ev]
@[simp] theorem ev_glo {x : PySem.Str} : ev (.glo x d) ρ = pure d := by rw [ev]
@[simp] theorem ev_bin {o : Operator} : ev (.bin o a b) ρ = (do binD o (← ev a ρ) (← ev b ρ)) := by rw [ev]
@[simp] theorem ev_neg : ev (.neg a) ρ = (do pure (.int (-(← asI (← ev a ρ))))) := by rw [ev]
@[simp] theorem ev_nt : ev (.nt a) ρ = (do pure (.bl (!(← asB (← ev a ρ))))) := by rw [ev]
@[simp] theorem ev_cmp {o : CmpOp} : ev (.cmp o a b) ρ = (do pure (.bl (← cmpD o (← ev a ρ) (← ev b ρ)))) := by rw [ev]
@[simp] theorem ev_cmp2 {o o' : CmpOp} : ev (.cmp2 o o' a b c) ρ = (do
    let x ← ev a ρ
    let y ← ev b ρ
    let k ← cmpD o x y
    if k = true then do pure (.bl (← cmpD o' y (← ev c ρ))) else pure (.bl false)) := by rw [ev]
@[simp] theorem ev_cmp3 {o o' o2 : CmpOp} {d' : Ex} : ev (.cmp3 o o' o2 a b c d') ρ = (do
    let x ← ev a ρ
    let y ← ev b ρ
    let k ← cmpD o x y
    if k = true then do
      let z ← ev c ρ
      let j ← cmpD o' y z
      if j = true then do pure (.bl (← cmpD o2 z (← ev d' ρ))) else pure (.bl false)
    else pure (.bl false)) := by rw [ev]
@[simp] theorem ev_and : ev (.and es) ρ = evAnd es ρ := by rw [ev]
@[simp] theorem ev_or : ev (.or es) ρ = evOr es ρ := by rw [ev]
@[simp] theorem ev_ite : ev (.ite c a b) ρ = (do
    let k ← asB (← ev c ρ)
    if k = true then ev a ρ else ev b ρ) := by rw [ev]
@[simp] theorem ev_tup : ev (.tup es) ρ = (do
    let ds ← evs es ρ
    grd (decide (ds.length ≤ line)) (pure (.tup ds))) := by rw [ev]
@[simp] theorem ev_lst : ev (.lst es) ρ = (do
    let ds ← evs es ρ
    grd (decide (ds.length ≤ line)) (pure (.lst ds))) := by rw [ev]
@[simp] theorem ev_sub : ev (.sub a b) ρ = (do subD (← ev a ρ) (← ev b ρ)) := by rw [ev]
@[simp] theorem ev_slc {lo hi : Op} : ev (.slc a lo hi) ρ = (do
    let x ← ev a ρ
    let l ← evOp lo ρ
    let h ← evOp hi ρ
    slcD x l h) := by rw [ev]
@[simp] theorem ev_rvs : ev (.rvs a) ρ = (do rvD (← ev a ρ)) := by rw [ev]
@[simp] theorem rvD_str {s : List Nat} (h : s.length ≤ line) : rvD (.str s) = pure (.str s.reverse) := if_pos (decide_eq_true h)
@[simp] theorem ev_call {x : PySem.Str} {f : Sem} : ev (.call x f es) ρ = (do f (← evs es ρ)) := by rw [ev]
@[simp] theorem ev_blt {b : Bl} : ev (.blt b es) ρ = (do bltD b (← evs es ρ)) := by rw [ev]
@[simp] theorem ev_met {m : Mt} : ev (.met m a es) ρ = (do
    let x ← ev a ρ
    grd (recOk m x) (do metD m x (← evs es ρ))) := by rw [ev]
@[simp] theorem ev_isi {ts : List Ty} {one : Bool} : ev (.isi a ts one) ρ = (do
    let x ← ev a ρ
    grd (tyOk x) (grd (decide (ts.length ≤ line)) (pure (.bl (ts.any (isTy x)))))) := by rw [ev]
/-- what a comprehension does with an item -/
def cmpF (ρ : List Sl) (tg : Tg) (c : Op) (e : Ex) (own : List (PySem.Str × Nat)) (d : D) : M (Option D) := do
  let ρ' ← bindT tg d (wipeS ρ (own.map (·.2)))
  let k ← nox (evC c ρ')
  if k = true then do pure (some (← nox (ev e ρ'))) else pure none
@[simp] theorem ev_comp {tg : Tg} {it : It} {c : Op} {e : Ex} {own : List (PySem.Str × Nat)} : ev (.comp tg it c e own) ρ = (do
    let ds ← evIt it ρ
    grd (decide (ds.length ≤ line)) (do pure (.lst (← compL (cmpF ρ tg c e own) ds)))) := by first | (rw [ev]; done) | (rw [ev]; rfl)
def sscF (ρ : List Sl) (tg : Tg) (c : Op) (e : Ex) (own : List (PySem.Str × Nat)) (d : D) : M (Option Ky) := do
  let ρ' ← bindT tg d (wipeS ρ (own.map (·.2)))
  let k ← nox (evC c ρ')
  if k = true then do
    let y ← nox (ev e ρ')
    let q ← opt (kyOf y)
    pure (some q) else pure none
@[simp] theorem ev_ssc {tg : Tg} {it : It} {c : Op} {e : Ex} {own : List (PySem.Str × Nat)} : ev (.ssc tg it c e own) ρ = (do
    let ds ← evIt it ρ
    grd (decide (ds.length ≤ 4000)) (do
      let ks ← compL (sscF ρ tg c e own) ds
      grd (srtOk ((ks.foldl addK []).map Ky.d)) (pure (.lst (sortD ((ks.foldl addK []).map Ky.d)))))) := by first | (rw [ev]; done) | (rw [ev]; rfl)
@[simp] theorem ev_dic {t : Bool} : ev (.dic t) ρ = pure (if t = true then .dT [] [] else .dK [] []) := by rw [ev]
@[simp] theorem evs_nil : evs .nil ρ = pure [] := by rw [evs]
@[simp] theorem evs_cons : evs (.cons e es) ρ = (do
    let d ← ev e ρ
    let ds ← evs es ρ
    pure (d :: ds)) := by rw [evs]
@[simp] theorem evAnd_one : evAnd (.cons e .nil) ρ = ev e ρ := by rw [evAnd]; simp
@[simp] theorem evAnd_cons : evAnd (.cons e (.cons a es)) ρ = (do
    let d ← ev e ρ
    let k ← asB d
    if k = true then evAnd (.cons a es) ρ else pure (.bl false)) := by rw [evAnd]
@[simp] theorem evOr_one : evOr (.cons e .nil) ρ = ev e ρ := by rw [evOr]; simp
@[simp] theorem evOr_cons : evOr (.cons e (.cons a es)) ρ = (do
    let d ← ev e ρ
    let k ← asB d
    if k = true then pure (.bl true) else evOr (.cons a es) ρ) := by rw [evOr]
@[simp] theorem evOp_no : evOp .no ρ = pure none := by rw [evOp]
@[simp] theorem evOp_so : evOp (.so e) ρ = (do pure (some (← asI (← ev e ρ)))) := by rw [evOp]
@[simp] theorem evC_no : evC .no ρ = pure true := by rw [evC]
@[simp] theorem evC_so : evC (.so e) ρ = (do asB (← ev e ρ)) := by rw [evC]
@[simp] theorem evIt_of : evIt (.of e) ρ = (do itemsD (← ev e ρ)) := by rw [evIt]
@[simp] theorem evIt_rng : evIt (.rng es) ρ = (do rngOf (← evs es ρ)) := by rw [evIt]
@[simp] theorem evIt_enu : evIt (.enu e) ρ = (do pure (enumFrom' 0 (← itemsD (← ev e ρ)))) := by rw [evIt]
@[simp] theorem evIt_zip : evIt (.zip a b) ρ = (do
    let x ← ev a ρ
    let y ← ev b ρ
    zip2 x y) := by rw [evIt]
@[simp] theorem evIt_rev : evIt (.rev e) ρ = (do pure (← seqD (← ev e ρ)).reverse) := by rw [evIt]
end
/-! ### what is new -/
section
variable {a b c e : Ex} {es : Exs} {i : Nat}
@[simp] theorem fresh_lst : (Ex.lst es).fresh = 1 := by rw [Ex.fresh]
@[simp] theorem fresh_dic {t : Bool} : (Ex.dic t).fresh = 1 := by rw [Ex.fresh]
@[simp] theorem fresh_bin {o : Operator} : (Ex.bin o a b).fresh = 1 := by rw [Ex.fresh]
@[simp] theorem fresh_ssc {tg : Tg} {it : It} {c : Op} {own : List (PySem.Str × Nat)} : (Ex.ssc tg it c e own).fresh = 1 := by rw [Ex.fresh]
@[simp] theorem fresh_keyl {j : Nat} : (Ex.keyl i j).fresh = 1 := by rw [Ex.fresh]
@[simp] theorem fresh_comp {tg : Tg} {it : It} {c : Op} {own : List (PySem.Str × Nat)} : (Ex.comp tg it c e own).fresh = if e.fresh = 0 then 1 else 2 := by rw [Ex.fresh]
@[simp] theorem fresh_list : (Ex.blt .list es).fresh = 1 := by rw [Ex.fresh]
@[simp] theorem fresh_sorted : (Ex.blt .sorted es).fresh = 1 := by rw [Ex.fresh]
end
@[simp] theorem kids_lst {xs : List D} : (D.lst xs).kids = xs := rfl
@[simp] theorem kids_tup {xs : List D} : (D.tup xs).kids = xs := rfl
@[simp] theorem kids_dK {k : List Ky} {xs : List D} : (D.dK k xs).kids = xs := rfl
@[simp] theorem cont_lst {xs : List D} : isCont (.lst xs) = true := rfl
@[simp] theorem cont_dK {k : List Ky} {xs : List D} : isCont (.dK k xs) = true := rfl
@[simp] theorem cont_dT {k : List (List Ky)} {xs : List D} : isCont (.dT k xs) = true := rfl
@[simp] theorem pureL_nil : D.pureL [] = true := rfl
@[simp] theorem pureL_cons {d : D} {ds : List D} : D.pureL (d :: ds) = (d.pure && D.pureL ds) := rfl
/-! ### slots read -/
section
variable {a b c e : Ex} {es : Exs} {i : Nat}
@[simp] theorem vs_var : (Ex.var i).vs = [i] := by rw [Ex.vs]
@[simp] theorem vs_con {c : Const} : (Ex.con c).vs = [] := by rw [Ex.vs]
@[simp] theorem vs_glo {x : PySem.Str} {d : D} : (Ex.glo x d).vs = [] := by rw [Ex.vs]
@[simp] theorem vs_dic {t : Bool} : (Ex.dic t).vs = [] := by rw [Ex.vs]
@[simp] theorem vs_bin {o : Operator} : (Ex.bin o a b).vs = a.vs ++ b.vs := by rw [Ex.vs]
@[simp] theorem vs_cmp {o : CmpOp} : (Ex.cmp o a b).vs = a.vs ++ b.vs := by rw [Ex.vs]
@[simp] theorem vs_sub : (Ex.sub a b).vs = a.vs ++ b.vs := by rw [Ex.vs]
@[simp] theorem vs_neg : (Ex.neg a).vs = a.vs := by rw [Ex.vs]
@[simp] theorem vs_nt : (Ex.nt a).vs = a.vs := by rw [Ex.vs]
@[simp] theorem vs_rvs : (Ex.rvs a).vs = a.vs := by rw [Ex.vs]
@[simp] theorem vs_isi {t : List Ty} {o : Bool} : (Ex.isi a t o).vs = a.vs := by rw [Ex.vs]
@[simp] theorem vs_cmp2 {o o' : CmpOp} : (Ex.cmp2 o o' a b c).vs = a.vs ++ (b.vs ++ c.vs) := by rw [Ex.vs]
@[simp] theorem vs_ite : (Ex.ite a b c).vs = a.vs ++ (b.vs ++ c.vs) := by rw [Ex.vs]
@[simp] theorem vs_cmp3 {o o' o2 : CmpOp} {d : Ex} : (Ex.cmp3 o o' o2 a b c d).vs = a.vs ++ (b.vs ++ (c.vs ++ d.vs)) := by rw [Ex.vs]
@[simp] theorem vs_and : (Ex.and es).vs = es.vs := by rw [Ex.vs]
@[simp] theorem vs_or : (Ex.or es).vs = es.vs := by rw [Ex.vs]
@[simp] theorem vs_tup : (Ex.tup es).vs = es.vs := by rw [Ex.vs]
@[simp] theorem vs_lst : (Ex.lst es).vs = es.vs := by rw [Ex.vs]
@[simp] theorem vs_call {x : PySem.Str} {f : Sem} : (Ex.call x f es).vs = es.vs := by rw [Ex.vs]
@[simp] theorem vs_blt {f : Bl} : (Ex.blt f es).vs = es.vs := by rw [Ex.vs]
@[simp] theorem vs_slc {lo hi : Op} : (Ex.slc a lo hi).vs = a.vs ++ (lo.vs ++ hi.vs) := by rw [Ex.vs]
@[simp] theorem vs_met {m : Mt} : (Ex.met m a es).vs = a.vs ++ es.vs := by rw [Ex.vs]
def fltN (own : List Nat) (vs : List Nat) : List Nat := vs.filter fun i => !own.contains i
@[simp] theorem fltN_nil {own : List Nat} : fltN own [] = [] := rfl
@[simp] theorem fltN_cons {own : List Nat} {v : Nat} {vs : List Nat} : fltN own (v :: vs) = if own.contains v = true then fltN own vs else v :: fltN own vs := by
  unfold fltN
  rw [List.filter_cons]
  cases own.contains v <;> rfl
@[simp] theorem vs_comp {tg : Tg} {it : It} {c : Op} {own : List (PySem.Str × Nat)} : (Ex.comp tg it c e own).vs = it.vs ++ fltN (own.map (·.2)) (c.vs ++ e.vs) := by first | (rw [Ex.vs]; done) | (rw [Ex.vs]; rfl)
@[simp] theorem vs_ssc {tg : Tg} {it : It} {c : Op} {own : List (PySem.Str × Nat)} : (Ex.ssc tg it c e own).vs = it.vs ++ fltN (own.map (·.2)) (c.vs ++ e.vs) := by first | (rw [Ex.vs]; done) | (rw [Ex.vs]; rfl)
@[simp] theorem vs_keyl {j : Nat} : (Ex.keyl i j).vs = [i] := by rw [Ex.vs]
@[simp] theorem vs_mxd {j : Int} : (Ex.mxd a j).vs = a.vs := by rw [Ex.vs]
@[simp] theorem vss_nil : Exs.nil.vs = [] := by rw [Exs.vs]
@[simp] theorem vss_cons : (Exs.cons e es).vs = e.vs ++ es.vs := by rw [Exs.vs]
@[simp] theorem vso_no : Op.no.vs = [] := by rw [Op.vs]
@[simp] theorem vso_so : (Op.so e).vs = e.vs := by rw [Op.vs]
@[simp] theorem vsi_of : (It.of e).vs = e.vs := by rw [It.vs]
@[simp] theorem vsi_enu : (It.enu e).vs = e.vs := by rw [It.vs]
@[simp] theorem vsi_rev : (It.rev e).vs = e.vs := by rw [It.vs]
@[simp] theorem vsi_rng : (It.rng es).vs = es.vs := by rw [It.vs]
@[simp] theorem vsi_zip : (It.zip a b).vs = a.vs ++ b.vs := by rw [It.vs]
@[simp] theorem lk_of : (It.of e).lk = e.vs := by unfold It.lk; simp
@[simp] theorem lk_enu : (It.enu e).lk = e.vs := by unfold It.lk; simp
@[simp] theorem lk_rev : (It.rev e).lk = e.vs := by unfold It.lk; simp
@[simp] theorem lk_zip : (It.zip a b).lk = a.vs ++ b.vs := by unfold It.lk; simp
@[simp] theorem lk_rng : (It.rng es).lk = [] := rfl
end
@[simp] theorem frz_nil {ρ : List Sl} : frz ρ [] = ρ := rfl
@[simp] theorem frz_cons {ρ : List Sl} {v : Nat} {vs : List Nat} : frz ρ (v :: vs) = frz (frz1 ρ v) vs := rfl
/-! ### slots -/
@[simp] theorem vget_0 {s : Sl} {ρ : List Sl} : vget (s :: ρ) 0 = s.d := rfl
@[simp] theorem vget_s {s : Sl} {ρ : List Sl} {i : Nat} : vget (s :: ρ) (i + 1) = vget ρ i := rfl
@[simp] theorem getSl_0 {s : Sl} {ρ : List Sl} : (s :: ρ)[0]? = some s := rfl
@[simp] theorem getSl_s {s : Sl} {ρ : List Sl} {i : Nat} : (s :: ρ)[i + 1]? = ρ[i]? := by simp
@[simp] theorem d_val {d : D} : (Sl.val d).d = some d := rfl
@[simp] theorem d_own {d : D} : (Sl.own d).d = some d := rfl
@[simp] theorem d_ow2 {d : D} : (Sl.ow2 d).d = some d := rfl
@[simp] theorem wipeS_nil {ρ : List Sl} : wipeS ρ [] = ρ := rfl
@[simp] theorem wipeS_cons {ρ : List Sl} {v : Nat} {vs : List Nat} : wipeS ρ (v :: vs) = (wipeS ρ vs).set v .no := rfl
@[simp] theorem bindT_nm {i : Nat} {d : D} {ρ : List Sl} : bindT (.nm i) d ρ = pure (ρ.set i (.val d)) := by rw [bindT]
@[simp] theorem bindT_tp {ts : Tgs} {ds : List D} {ρ : List Sl} : bindT (.tp ts) (.tup ds) ρ = bindTs ts ds ρ := by rw [bindT]
@[simp] theorem bindTs_nil {ρ : List Sl} : bindTs .nil [] ρ = pure ρ := by rw [bindTs]
@[simp] theorem bindTs_cons {t : Tg} {ts : Tgs} {d : D} {ds : List D} {ρ : List Sl} : bindTs (.cons t ts) (d :: ds) ρ = (do bindTs ts ds (← bindT t d ρ)) := by rw [bindTs]
/-! ### constants, operators -/
@[simp] theorem conD_none : conD .none = pure .non := rfl
@[simp] theorem conD_bool {b : Bool} : conD (.bool b) = pure (.bl b) := rfl
@[simp] theorem conD_int {i : Int} : conD (.int i) = pure (.int i) := rfl
@[simp] theorem conD_str {x : PySem.Str} : conD (.str x) = pure (.str x.cps.toList) := rfl
@[simp] theorem asB_bl {b : Bool} : asB (.bl b) = pure b := rfl
@[simp] theorem asI_int {i : Int} : asI (.int i) = pure i := rfl
@[simp] theorem grd_dec {α : Type} {p : Prop} [Decidable p] {m : M α} (h : p) : grd (decide p) m = m := if_pos (decide_eq_true h)
@[simp] theorem grd_t {α : Type} {m : M α} : grd true m = m := rfl
@[simp] theorem bin_addI {i j : Int} : binD .Add (.int i) (.int j) = pure (.int (i + j)) := rfl
@[simp] theorem bin_addS {s t : List Nat} (h : s.length + t.length ≤ line) : binD .Add (.str s) (.str t) = pure (.str (s ++ t)) := grd_true (decide_eq_true h)
@[simp] theorem bin_addL {s t : List D} (h : s.length + t.length ≤ line) : binD .Add (.lst s) (.lst t) = pure (.lst (s ++ t)) := grd_true (decide_eq_true h)
@[simp] theorem bin_addT {s t : List D} (h : s.length + t.length ≤ line) : binD .Add (.tup s) (.tup t) = pure (.tup (s ++ t)) := grd_true (decide_eq_true h)
@[simp] theorem bin_subI {i j : Int} : binD .Sub (.int i) (.int j) = pure (.int (i - j)) := rfl
@[simp] theorem bin_mulI {i j : Int} (h : cmulB i j = true) : binD .Mult (.int i) (.int j) = pure (.int (i * j)) := grd_true h
theorem bin_mulN {i j : Nat} (h : i < 2 ^ 64) : binD .Mult (.int i) (.int j) = pure (.int (i * j)) := bin_mulI (by unfold cmulB; simp; omega)
@[simp] theorem bin_mulL {xs : List D} {k : Int} (h : -(2 ^ 63) ≤ k ∧ k < 2 ^ 63 ∧ xs.length * k.toNat ≤ line) : binD .Mult (.lst xs) (.int k) = pure (.lst (List.replicate k.toNat xs).flatten) := grd_true (decide_eq_true h)
@[simp] theorem bin_div {i j : Int} (h : 0 < j ∧ j < 1073741824) : binD .FloorDiv (.int i) (.int j) = pure (.int (i / j)) := grd_true (decide_eq_true h)
@[simp] theorem bin_mod {i j : Int} (h : 0 < j) : binD .Mod (.int i) (.int j) = pure (.int (i % j)) := grd_true (decide_eq_true h)
@[simp] theorem cmp_eq {a b : D} : cmpD .Eq a b = eqD a b := rfl
@[simp] theorem cmp_ne {a b : D} : cmpD .NotEq a b = (do pure (!(← eqD a b))) := rfl
@[simp] theorem cmp_lt {i j : Int} : cmpD .Lt (.int i) (.int j) = pure (decide (i < j)) := rfl
@[simp] theorem cmp_le {i j : Int} : cmpD .LtE (.int i) (.int j) = pure (decide (i ≤ j)) := rfl
@[simp] theorem cmp_gt {i j : Int} : cmpD .Gt (.int i) (.int j) = pure (decide (j < i)) := rfl
@[simp] theorem cmp_ge {i j : Int} : cmpD .GtE (.int i) (.int j) = pure (decide (j ≤ i)) := rfl
@[simp] theorem cmp_ltS {i j : List Nat} : cmpD .Lt (.str i) (.str j) = pure (ltS i j) := rfl
@[simp] theorem cmp_in {a b : D} : cmpD .In a b = inD a b := rfl
@[simp] theorem cmp_nin {a b : D} : cmpD .NotIn a b = (do pure (!(← inD a b))) := rfl
@[simp] theorem cmp_is {a : D} : cmpD .Is a .non = pure (match a with | .non => true | _ => false) := rfl
@[simp] theorem cmp_isn {a : D} : cmpD .IsNot a .non = pure (match a with | .non => false | _ => true) := rfl
@[simp] theorem eqD_int {i j : Int} : eqD (.int i) (.int j) = pure (i == j) := rfl
@[simp] theorem eqD_str {i j : List Nat} : eqD (.str i) (.str j) = pure (i == j) := rfl
@[simp] theorem eqD_bl {i j : Bool} : eqD (.bl i) (.bl j) = pure (i == j) := rfl
@[simp] theorem sub_lst {xs : List D} {i : Int} : subD (.lst xs) (.int i) = opt (atI xs i) := rfl
@[simp] theorem sub_tup {xs : List D} {i : Int} : subD (.tup xs) (.int i) = opt (atI xs i) := rfl
theorem sub_lstN {xs : List D} {k : Nat} (h : k < xs.length) : subD (.lst xs) (.int k) = pure xs[k] := by rw [sub_lst, atI_n h]; rfl
theorem sub_tupN {xs : List D} {k : Nat} (h : k < xs.length) : subD (.tup xs) (.int k) = pure xs[k] := by rw [sub_tup, atI_n h]; rfl
theorem sub_strN {s : List Nat} {k : Nat} (h : k < s.length) (hl : s.length ≤ line) : subD (.str s) (.int k) = pure (.str [s[k]]) := by
  show grd (decide (s.length ≤ line)) (match atI s k with
    | some c => pure (D.str [c])
    | none => M.stk) = _
  rw [grd_dec hl, atI_n h]
@[simp] theorem slc_str {s : List Nat} {lo hi : Option Int} (h : s.length ≤ line) : slcD (.str s) lo hi = pure (.str (cutL s lo hi)) := grd_true (decide_eq_true h)
@[simp] theorem slc_lst {s : List D} {lo hi : Option Int} : slcD (.lst s) lo hi = pure (.lst (cutL s lo hi)) := rfl
@[simp] theorem slc_tup {s : List D} {lo hi : Option Int} : slcD (.tup s) lo hi = pure (.tup (cutL s lo hi)) := rfl
@[simp] theorem blt_lenS {s : List Nat} (h : s.length ≤ line) : bltD .len [.str s] = pure (.int s.length) := grd_true (decide_eq_true h)
@[simp] theorem blt_lenL {s : List D} : bltD .len [.lst s] = pure (.int s.length) := rfl
@[simp] theorem blt_lenT {s : List D} : bltD .len [.tup s] = pure (.int s.length) := rfl
@[simp] theorem blt_lenK {k : List Ky} {s : List D} : bltD .len [.dK k s] = pure (.int k.length) := rfl
@[simp] theorem blt_sum {γ : Type} {f : γ → Int} {l : List γ} : bltD .sum [.lst (l.map fun x => D.int (f x))] = pure (.int (l.map f).sum) := by
  show (match intsOf _ with
    | some ns => pure (D.int ns.sum)
    | none => M.stk) = _
  rw [intsOf_map]
@[simp] theorem blt_sumT {γ : Type} {f : γ → Int} {l : List γ} : bltD .sum [.tup (l.map fun x => D.int (f x))] = pure (.int (l.map f).sum) := by
  show (match intsOf _ with
    | some ns => pure (D.int ns.sum)
    | none => M.stk) = _
  rw [intsOf_map]
@[simp] theorem blt_max {i j : Int} : bltD .max [.int i, .int j] = pure (.int (if j > i then j else i)) := rfl
@[simp] theorem blt_min {i j : Int} : bltD .min [.int i, .int j] = pure (.int (if j < i then j else i)) := rfl
@[simp] theorem blt_abs {i : Int} : bltD .abs [.int i] = pure (.int (if i < 0 then -i else i)) := rfl
@[simp] theorem blt_int {i : Int} : bltD .int [.int i] = pure (.int i) := rfl
@[simp] theorem blt_intB {b : Bool} : bltD .int [.bl b] = pure (.int (if b then 1 else 0)) := rfl
@[simp] theorem blt_tupL {s : List D} : bltD .tuple [.lst s] = pure (.tup s) := rfl
@[simp] theorem blt_tupT {s : List D} : bltD .tuple [.tup s] = pure (.tup s) := rfl
@[simp] theorem blt_lstL {s : List D} : bltD .list [.lst s] = pure (.lst s) := rfl
@[simp] theorem blt_lstT {s : List D} : bltD .list [.tup s] = pure (.lst s) := rfl
theorem blt_srt {s : List D} (h : srtOk s = true) : bltD .sorted [.lst s] = pure (.lst (sortD s)) := grd_true h
theorem blt_srtK {k : List Ky} {s : List D} (h : srtOk (k.map Ky.d) = true) : bltD .sorted [.dK k s] = pure (.lst (sortD (k.map Ky.d))) := grd_true h
@[simp] theorem rec_join {s : List Nat} : recOk .join (.str s) = true := rfl
@[simp] theorem rec_getK {k : List Ky} {s : List D} : recOk .get (.dK k s) = true := rfl
theorem met_join {γ : Type} {f : γ → List Nat} {l : List γ} (h : (l.map f).flatten.length ≤ line) : metD .join (.str []) [.lst (l.map fun x => D.str (f x))] = pure (.str (l.map f).flatten) := by
  show (match strsOf _ with
    | some ss => grd (decide (sumLen ss + ss.length * ([] : List Nat).length ≤ line)) (pure (D.str (joinS [] ss)))
    | none => M.stk) = _
  rw [strsOf_map]
  show grd (decide (sumLen (l.map f) + (l.map f).length * 0 ≤ line)) (pure (D.str (joinS [] (l.map f)))) = _
  rw [joinS_nil, sumLen_flat, Nat.mul_zero, Nat.add_zero, grd_dec h]
@[simp] theorem items_lst {s : List D} : itemsD (.lst s) = pure s := rfl
@[simp] theorem items_tup {s : List D} : itemsD (.tup s) = pure s := rfl
@[simp] theorem items_str {s : List Nat} : itemsD (.str s) = pure (s.map fun c => .str [c]) := rfl
@[simp] theorem seqD_lst {s : List D} : seqD (.lst s) = pure s := rfl
@[simp] theorem zip2_lst {s t : List D} : zip2 (.lst s) (.lst t) = pure (zipD s t) := rfl
@[simp] theorem zip2_tup {s t : List D} : zip2 (.tup s) (.tup t) = pure (zipD s t) := rfl
theorem rng_int {i : Int} (h : i ≤ line) (h0 : -4611686018427387904 ≤ i) : rngOf [.int i] = pure ((List.range i.toNat).map fun k : Nat => D.int k) := by
  show grd (smallB i) (pure (rngD 0 1 i.toNat)) = _
  rw [rngD0]
  refine grd_true ?_
  unfold smallB line at *
  simp; omega
theorem rng_nat {n : Nat} (h : n ≤ line) : rngOf [.int n] = pure ((List.range n).map fun k : Nat => D.int k) := by
  rw [rng_int (by omega) (by omega)]; rfl
/-! ### statements -/
section
variable {ρ : List Sl} {i : Nat} {c e k : Ex} {s : St} {ss a b : Sts}
@[simp] theorem exSs_nil : exSs .nil ρ = pure (.nx ρ) := by rw [exSs]
@[simp] theorem exSs_cons : exSs (.cons s ss) ρ = (do
    match ← exS s ρ with
    | .nx ρ' => exSs ss ρ'
    | o => pure o) := by first | (rw [exSs]; done) | (rw [exSs]; rfl)
theorem exSs_nx {ρ' : List Sl} (h : exS s ρ = pure (.nx ρ')) : exSs (.cons s ss) ρ = exSs ss ρ' := by rw [exSs_cons, h]; rfl
theorem exSs_rt {d : D} (h : exS s ρ = pure (.rt d)) : exSs (.cons s ss) ρ = pure (.rt d) := by rw [exSs_cons, h]; rfl
@[simp] theorem exS_set0 : exS (.set 0 i e) ρ = lif (ev e ρ) ρ fun d => pure (.nx ((shr ρ e.vs d.pure).set i (.val d))) := by rw [exS]
@[simp] theorem exS_set1 : exS (.set 1 i e) ρ = lif (ev e ρ) ρ fun d => grd (decide (1 ≤ e.fresh) && (isCont d && D.pureL d.kids)) (pure (.nx (ρ.set i (.own d)))) := by rw [exS]
@[simp] theorem exS_set2 : exS (.set 2 i e) ρ = lif (ev e ρ) ρ fun d => grd (decide (1 ≤ e.fresh) && (isCont d && (d.kids.isEmpty || (decide (2 ≤ e.fresh) && (d.kids.all isCont && d.kids.all fun x => D.pureL x.kids))))) (pure (.nx (ρ.set i (.ow2 d)))) := by rw [exS]
@[simp] theorem exS_unp {ts : Tgs} : exS (.unp ts e) ρ = lif (ev e ρ) ρ (fun d => (do pure (.nx (← bindT (.tp ts) d (shr ρ e.vs d.pure))))) := by rw [exS]
@[simp] theorem exS_exp : exS (.exp e) ρ = lif (ev e ρ) ρ fun _ => pure (.nx ρ) := by rw [exS]
@[simp] theorem exS_ret : exS (.ret e) ρ = lif (ev e ρ) ρ fun d => pure (.rt d) := by rw [exS]
@[simp] theorem exS_ife : exS (.ife c a b) ρ = lif (do asB (← ev c ρ)) ρ fun k => if k = true then exSs a ρ else exSs b ρ := by rw [exS]
/-- a loop's test and body, not looked into before they run -/
def whlC (c : Ex) (ρ : List Sl) : M Bool := do asB (← ev c ρ)
def whlB (a : Sts) (ρ : List Sl) : M Out := exSs a ρ
def forB (tg : Tg) (a : Sts) (d : D) (ρ : List Sl) : M Out := do exSs a (← bindT tg d ρ)
@[simp] theorem whlC_eq : whlC c ρ = (do asB (← ev c ρ)) := rfl
@[simp] theorem whlB_eq : whlB a ρ = exSs a ρ := rfl
@[simp] theorem forB_eq {tg : Tg} {d : D} : forB tg a d ρ = (do exSs a (← bindT tg d ρ)) := rfl
@[simp] theorem exS_whl : exS (.whl c a) ρ = whlL (whlC c) (whlB a) fuel ρ := by first | (rw [exS]; done) | (rw [exS]; rfl)
@[simp] theorem exS_for {tg : Tg} {it : It} : exS (.for_ tg it a) ρ = lif (evIt it ρ) ρ fun ds => forL (forB tg a) ds (frz ρ it.lk) := by first | (rw [exS]; done) | (rw [exS]; rfl)
@[simp] theorem exS_app : exS (.app i e) ρ = (match ρ[i]? with
    | some (.own (.lst _)) => lif (ev e ρ) ρ fun d => appD (shr ρ e.vs d.pure) i d
    | _ => M.stk) := by first | (rw [exS]; done) | (rw [exS]; rfl)
@[simp] theorem exS_sti : exS (.sti i k e) ρ = (match ρ[i]? with
    | some (.own _) => lif (ev e ρ) ρ fun d => lif (ev k ρ) ρ fun q => stiD (shr ρ e.vs d.pure) i q d
    | _ => M.stk) := by first | (rw [exS]; done) | (rw [exS]; rfl)
@[simp] theorem exS_apk : exS (.apk i k e) ρ = (match ρ[i]? with
    | some (.ow2 d) => lif (ev k ρ) ρ fun q => kidL d q fun n ys => lif (ev e ρ) ρ fun x => apkD (shr ρ e.vs x.pure) i n ys x
    | _ => M.stk) := by first | (rw [exS]; done) | (rw [exS]; rfl)
@[simp] theorem exS_stf : exS (.stf i k e) ρ = (match ρ[i]? with
    | some (.ow2 d) => lif (ev e ρ) ρ fun x => lif (ev k ρ) ρ fun q => grd (decide (1 ≤ e.fresh) && (isCont x && (D.pureL x.kids && decide (d.kids.length < line)))) (match putKid d q x with
      | some d' => pure (.nx (ρ.set i (.ow2 d')))
      | none => M.stk)
    | _ => M.stk) := by first | (rw [exS]; done) | (rw [exS]; rfl)
@[simp] theorem exS_st2 {j : Ex} : exS (.st2 i k j e) ρ = (match ρ[i]? with
    | some (.ow2 d) => lif (ev e ρ) ρ fun x => lif (ev k ρ) ρ fun q => kidL d q fun n ys => lif (ev j ρ) ρ fun jj => st2D (shr ρ e.vs x.pure) i n ys jj x
    | _ => M.stk) := by first | (rw [exS]; done) | (rw [exS]; rfl)
@[simp] theorem exS_rse {x : PySem.Str} {nms : List PySem.Str} {es : Exs} : exS (.rse x nms es) ρ = lif (evs es ρ) ρ fun ds => grd (decide (ds.length = nms.length)) (pure (.ex ⟨x.cps.toList, nms.map fun n => n.cps.toList, ds.reverse⟩ ρ)) := by rw [exS]
@[simp] theorem exS_tr {b : Sts} {x : PySem.Str} {i : Option Nat} {h : HS} {tab : List (PySem.Str × List PySem.Str)} : exS (.tr b x i h tab) ρ = (do tryE x h tab (← exSs b ρ)) := by rw [exS]
@[simp] theorem tryE_nx {x : PySem.Str} {h : HS} {tab : List (PySem.Str × List PySem.Str)} {ρ : List Sl} : tryE x h tab (.nx ρ) = pure (.nx ρ) := rfl
@[simp] theorem tryE_rt {x : PySem.Str} {h : HS} {tab : List (PySem.Str × List PySem.Str)} {d : D} : tryE x h tab (.rt d) = pure (.rt d) := rfl
@[simp] theorem exS_aug {o : Operator} : exS (.aug i o e) ρ = (match vget ρ i with
    | some (.int a) => lif (ev e ρ) ρ fun y => match augD o a y with
      | some z => pure (.nx (ρ.set i (.val z)))
      | none => M.stk
    | _ => M.stk) := by first | (rw [exS]; done) | (rw [exS]; rfl)
@[simp] theorem aug_add {a b : Int} : augD .Add a (.int b) = some (.int (a + b)) := rfl
@[simp] theorem aug_sub {a b : Int} : augD .Sub a (.int b) = some (.int (a - b)) := rfl
@[simp] theorem exS_brk : exS .brk ρ = pure (.bk ρ) := by rw [exS]
@[simp] theorem exS_cnt : exS .cnt ρ = pure (.ct ρ) := by rw [exS]
@[simp] theorem exS_pas : exS .pas ρ = pure (.nx ρ) := by rw [exS]
theorem shr_no {vs : List Nat} {p : Bool} (h : noOwn ρ vs = true) : shr ρ vs p = ρ := by unfold shr; rw [h]; rfl
def notO : Option Sl → Bool
  | some (.own _) | some (.ow2 _) => false
  | _ => true
@[simp] theorem notO_own {d : D} : notO (some (.own d)) = false := rfl
@[simp] theorem notO_ow2 {d : D} : notO (some (.ow2 d)) = false := rfl
@[simp] theorem notO_val {d : D} : notO (some (.val d)) = true := rfl
@[simp] theorem notO_no : notO (some .no) = true := rfl
@[simp] theorem notO_none : notO none = true := rfl
@[simp] theorem noOwn_nil : noOwn ρ [] = true := rfl
@[simp] theorem noOwn_cons {v : Nat} {vs : List Nat} : noOwn ρ (v :: vs) = (notO ρ[v]? && noOwn ρ vs) := rfl
@[simp] theorem shr_if {vs : List Nat} {p : Bool} : shr ρ vs p = if (noOwn ρ vs || p) = true then ρ else frz ρ vs := rfl
@[simp] theorem pure_int {i : Int} : (D.int i).pure = true := rfl
@[simp] theorem pure_str {i : List Nat} : (D.str i).pure = true := rfl
@[simp] theorem pure_bl {i : Bool} : (D.bl i).pure = true := rfl
@[simp] theorem pure_non : D.non.pure = true := rfl
@[simp] theorem pure_tup {ds : List D} : (D.tup ds).pure = D.pureL ds := rfl
@[simp] theorem pure_lst {ds : List D} : (D.lst ds).pure = false := rfl
theorem frz_no {vs : List Nat} (h : noOwn ρ vs = true) : frz ρ vs = ρ := by
  induction vs with
  | nil => rfl
  | cons v vs ih =>
    unfold noOwn at h ih
    rw [List.all_cons, Bool.and_eq_true] at h
    unfold frz
    have : frz1 ρ v = ρ := by
      unfold frz1
      have h1 := h.1
      split at h1 <;> simp_all
    rw [this]; exact ih h.2
end
@[simp] theorem frz1_eq {ρ : List Sl} {i : Nat} : frz1 ρ i = (match ρ[i]? with
  | some (.own d) | some (.ow2 d) => ρ.set i (.val d)
  | _ => ρ) := rfl
theorem run_eq {f : Fn} {ds : List D} (h : ds.length = f.n) : TI.run f ds = (do
    match ← exSs f.body (ds.map Sl.val ++ List.replicate (f.m - f.n) Sl.no) with
    | .rt d => pure d
    | .nx _ => pure .non
    | .ex e _ => M.thr e
    | _ => M.stk) := if_pos h
theorem ite_pure {α : Type} {c : Prop} [Decidable c] {a b : α} : (if c then (pure a : M α) else pure b) = pure (if c then a else b) := by split <;> rfl
/-! ### loops -/
theorem whl_go {α : Type} {c : List Sl → M Bool} {b : List Sl → M Out} {f : Out → M α} {r : M α} {k : Nat} {ρ : List Sl} (I : Nat → List Sl → Prop) (E : List Sl → Prop) (n : Nat) (hI : I n ρ) (hk : n < k)
    (step : ∀ n ρ, I n ρ → (c ρ = pure false ∧ E ρ) ∨ ∃ ρ' m, c ρ = pure true ∧ (b ρ = pure (.nx ρ') ∨ b ρ = pure (.ct ρ')) ∧ m < n ∧ I m ρ') (fin : ∀ ρ', E ρ' → f (.nx ρ') = r) : (whlL c b k ρ >>= f) = r := by
  obtain ⟨ρ', e, h⟩ := whlL_inv I E step k n ρ hI hk
  rw [e, pure_bind]; exact fin ρ' h
theorem for_go {α : Type} {b : D → List Sl → M Out} {f : Out → M α} {r : M α} {ds : List D} {ρ : List Sl} (I : Nat → List Sl → Prop) (h0 : I 0 ρ)
    (step : ∀ i (h : i < ds.length) ρ, I i ρ → ∃ ρ', (b ds[i] ρ = pure (.nx ρ') ∨ b ds[i] ρ = pure (.ct ρ')) ∧ I (i + 1) ρ') (fin : ∀ ρ', I ds.length ρ' → f (.nx ρ') = r) : (forL b ds ρ >>= f) = r := by
  obtain ⟨ρ', e, h⟩ := forL_inv I h0 step
  rw [e, pure_bind]; exact fin ρ' h
theorem for_ex {α : Type} {b : D → List Sl → M Out} {f : Out → M α} {r : M α} {ds : List D} {ρ : List Sl} (I : Nat → List Sl → Prop) (E : Out → Prop) (h0 : I 0 ρ)
    (step : ∀ i (h : i < ds.length) ρ, I i ρ → ∃ u, b ds[i] ρ = pure u ∧ match u with
      | .nx ρ' | .ct ρ' => I (i + 1) ρ'
      | .bk ρ' => E (.nx ρ')
      | u => E u) (fin : ∀ u, (E u ∨ ∃ ρ', u = .nx ρ' ∧ I ds.length ρ') → f u = r) : (forL b ds ρ >>= f) = r := by
  obtain ⟨u, e, h⟩ := forL_ex I E h0 step
  rw [e, pure_bind]; exact fin u h
end TI
set_option Elab.async false
set_option linter.all false
set_option maxRecDepth 100000
set_option maxHeartbeats 4000000
/-! a body, statement by statement -/
namespace TI
open L2
section
variable {α : Type} {s : St} {ss : Sts} {ρ ρ' ρ1 : List Sl} {f : Out → M α} {r : M α} {d : D}
theorem sts_nx (ρ' : List Sl) (h : exS s ρ = pure (.nx ρ')) (k : (exSs ss ρ' >>= f) = r) : (exSs (.cons s ss) ρ >>= f) = r := by
  rw [exSs_nx h]; exact k
theorem sts_rt (d : D) (h : exS s ρ = pure (.rt d)) (k : f (.rt d) = r) : (exSs (.cons s ss) ρ >>= f) = r := by
  rw [exSs_rt h]; exact k
theorem sts_nil (k : f (.nx ρ) = r) : (exSs .nil ρ >>= f) = r := by
  rw [exSs_nil]; exact k
theorem sts_for {tg : Tg} {it : It} {a : Sts} {ds : List D} (ρ1 : List Sl) (hi : evIt it ρ = pure ds) (hf : frz ρ it.lk = ρ1) (I : Nat → List Sl → Prop) (h0 : I 0 ρ1)
    (step : ∀ i (h : i < ds.length) ρ, I i ρ → ∃ ρ', (forB tg a ds[i] ρ = pure (.nx ρ') ∨ forB tg a ds[i] ρ = pure (.ct ρ')) ∧ I (i + 1) ρ') (fin : ∀ ρ', I ds.length ρ' → (exSs ss ρ' >>= f) = r) : (exSs (.cons (.for_ tg it a) ss) ρ >>= f) = r := by
  obtain ⟨ρ', e, h⟩ := forL_inv I h0 step
  refine sts_nx ρ' ?_ (fin ρ' h)
  rw [exS_for, hi, lif_pure, hf, e]
theorem sts_forx {tg : Tg} {it : It} {a : Sts} {ds : List D} (ρ1 : List Sl) (hi : evIt it ρ = pure ds) (hf : frz ρ it.lk = ρ1) (I : Nat → List Sl → Prop) (E : Out → Prop) (h0 : I 0 ρ1)
    (step : ∀ i (h : i < ds.length) ρ, I i ρ → ∃ u, forB tg a ds[i] ρ = pure u ∧ match u with
      | .nx ρ' | .ct ρ' => I (i + 1) ρ'
      | .bk ρ' => E (.nx ρ')
      | u => E u) (fin : ∀ u, (E u ∨ ∃ ρ', u = .nx ρ' ∧ I ds.length ρ') → ((match u with
        | .nx ρ' => exSs ss ρ'
        | o => pure o) >>= f) = r) : (exSs (.cons (.for_ tg it a) ss) ρ >>= f) = r := by
  obtain ⟨u, e, h⟩ := forL_ex I E h0 step
  rw [exSs_cons, exS_for, hi, lif_pure, hf, e]
  exact fin u h
theorem run_go {fn : Fn} {ds : List D} {r : M D} (h : ds.length = fn.n) (k : (exSs fn.body (ds.map Sl.val ++ List.replicate (fn.m - fn.n) Sl.no) >>= fun u => match u with
    | .rt d => pure d
    | .nx _ => pure .non
    | .ex e _ => M.thr e
    | _ => M.stk) = r) : TI.run fn ds = r := by
  rw [run_eq h]; exact k
end
end TI
set_option Elab.async false
set_option linter.all false
set_option maxRecDepth 100000
set_option maxHeartbeats 4000000
/-! what runs with a well: a budget of draws, what holds of what is told -/
namespace TI
open L2
/-- m ends well from every state that has n draws left over what is wanted behind -/
def Ho {α : Type} (W : G → Nat → Prop) (n : Nat) (m : M α) (P : α → Prop) : Prop := ∀ g k, W g (k + n) → ∃ a g', m g = .ok a g' ∧ W g' k ∧ P a
section
variable {α β : Type} {W : G → Nat → Prop} {n n' : Nat} {m : M α} {P Q : α → Prop}
theorem Ho.pure {a : α} (h : P a) : Ho W 0 (Pure.pure a : M α) P := fun g k w => ⟨a, g, rfl, w, h⟩
theorem Ho.imp (h : Ho W n m Q) (k : ∀ a, Q a → P a) : Ho W n m P := fun g j w => by
  obtain ⟨a, g', e, w', q⟩ := h g j w
  exact ⟨a, g', e, w', k a q⟩
theorem Ho.more (mono : ∀ g i j, i ≤ j → W g j → W g i) (h : Ho W n m P) (le : n ≤ n') : Ho W n' m P := fun g k w => by
  obtain ⟨a, g', e, w', q⟩ := h g (k + (n' - n)) (by rw [show k + (n' - n) + n = k + n' by omega]; exact w)
  exact ⟨a, g', e, mono _ _ _ (by omega) w', q⟩
theorem Ho.bind {f : α → M β} {R : β → Prop} (h : Ho W n m Q) (k : ∀ a, Q a → Ho W n' (f a) R) : Ho W (n + n') (m >>= f) R := fun g j w => by
  obtain ⟨a, g', e, w', q⟩ := h g (j + n') (by rw [show j + n' + n = j + (n + n') by omega]; exact w)
  obtain ⟨b, g2, e2, w2, q2⟩ := k a q g' j w'
  refine ⟨b, g2, ?_, w2, q2⟩
  show M.bnd m f g = _
  unfold M.bnd
  rw [e]; exact e2
theorem Ho.map {f : α → β} {R : β → Prop} (h : Ho W n m Q) (k : ∀ a, Q a → R (f a)) : Ho W n (f <$> m) R := by
  have : f <$> m = m >>= fun a => Pure.pure (f a) := by simp
  rw [this]
  exact h.bind (n' := 0) fun a q => .pure (k a q)
theorem Ho.nox (h : Ho W n m P) : Ho W n (TI.nox m) P := fun g k w => by
  obtain ⟨a, g', e, w', q⟩ := h g k w
  exact ⟨a, g', by unfold TI.nox; rw [e], w', q⟩
theorem Ho.lif {f : α → M Out} {ρ : List Sl} {R : Out → Prop} (h : Ho W n m Q) (k : ∀ a, Q a → Ho W n' (f a) R) : Ho W (n + n') (TI.lif m ρ f) R := fun g j w => by
  obtain ⟨a, g', e, w', q⟩ := h g (j + n') (by rw [show j + n' + n = j + (n + n') by omega]; exact w)
  obtain ⟨b, g2, e2, w2, q2⟩ := k a q g' j w'
  refine ⟨b, g2, ?_, w2, q2⟩
  unfold TI.lif
  rw [e]; exact e2
theorem Ho.compL {γ : Type} {f : γ → M (Option β)} {R : β → Prop} {b : Nat} : ∀ {ds : List γ}, (∀ d ∈ ds, Ho W b (f d) fun o => ∃ x, o = some x ∧ R x) → Ho W (ds.length * b) (TI.compL f ds) fun l => l.length = ds.length ∧ ∀ x ∈ l, R x
  | [], _ => by
    unfold TI.compL
    rw [List.length_nil, Nat.zero_mul]
    exact .pure ⟨rfl, by simp⟩
  | d :: ds, h => by
    unfold TI.compL
    rw [List.length_cons, show (ds.length + 1) * b = b + (ds.length * b + 0) by rw [Nat.add_mul]; omega]
    refine (h d (by simp)).bind fun o ⟨x, e, hx⟩ => ?_
    subst e
    refine (Ho.compL fun d' hd => h d' (List.mem_cons_of_mem _ hd)).bind fun l ⟨h1, h2⟩ => .pure ⟨by simp [h1], fun y hy => ?_⟩
    rcases List.mem_cons.mp hy with rfl | hy
    · exact hx
    · exact h2 y hy
theorem Ho.forL (mono : ∀ g i j, i ≤ j → W g j → W g i) {b : D → List Sl → M Out} {c : Nat} (E : Out → Prop) : ∀ {ds : List D} (I : Nat → List Sl → Prop) {ρ : List Sl}, I 0 ρ →
    (∀ i (h : i < ds.length) ρ, I i ρ → Ho W c (b ds[i] ρ) fun u => match u with
      | .nx ρ' | .ct ρ' => I (i + 1) ρ'
      | .bk ρ' => E (.nx ρ')
      | u => E u) → Ho W (ds.length * c) (TI.forL b ds ρ) fun u => E u ∨ ∃ ρ', u = .nx ρ' ∧ I ds.length ρ'
  | [], I, ρ, h0, _ => by
    unfold TI.forL
    rw [List.length_nil, Nat.zero_mul]
    exact .pure (.inr ⟨ρ, rfl, h0⟩)
  | d :: ds, I, ρ, h0, step => by
    unfold TI.forL
    rw [List.length_cons, show (ds.length + 1) * c = c + ds.length * c by rw [Nat.add_mul]; omega]
    refine (step 0 (by simp) ρ h0).bind fun u hu => ?_
    have go : ∀ ρ', I 1 ρ' → Ho W (ds.length * c) (TI.forL b ds ρ') fun u => E u ∨ ∃ ρ2, u = .nx ρ2 ∧ I (ds.length + 1) ρ2 := fun ρ' h1 =>
      Ho.forL mono E (fun i => I (i + 1)) h1 fun i h ρ hi => step (i + 1) (by simpa using h) ρ hi
    cases u with
    | nx ρ' => exact go ρ' hu
    | ct ρ' => exact go ρ' hu
    | bk ρ' => exact (Ho.pure (P := fun u => E u ∨ ∃ ρ2, u = .nx ρ2 ∧ I (ds.length + 1) ρ2) (.inl hu)).more mono (Nat.zero_le _)
    | rt d => exact (Ho.pure (P := fun u => E u ∨ ∃ ρ2, u = .nx ρ2 ∧ I (ds.length + 1) ρ2) (.inl hu)).more mono (Nat.zero_le _)
    | ex e ρ' => exact (Ho.pure (P := fun u => E u ∨ ∃ ρ2, u = .nx ρ2 ∧ I (ds.length + 1) ρ2) (.inl hu)).more mono (Nat.zero_le _)
end
section
variable {α : Type} {W : G → Nat → Prop} {n n' : Nat} {s : St} {ss : Sts} {ρ : List Sl} {f : Out → M α} {R : α → Prop}
theorem ho_nx (ρ' : List Sl) (h : exS s ρ = pure (.nx ρ')) (k : Ho W n (exSs ss ρ' >>= f) R) : Ho W n (exSs (.cons s ss) ρ >>= f) R := by
  rw [exSs_nx h]; exact k
theorem ho_rt (d : D) (h : exS s ρ = pure (.rt d)) (k : Ho W n (f (.rt d)) R) : Ho W n (exSs (.cons s ss) ρ >>= f) R := by
  rw [exSs_rt h]; exact k
theorem ho_nil (k : Ho W n (f (.nx ρ)) R) : Ho W n (exSs .nil ρ >>= f) R := by
  rw [exSs_nil]; exact k
theorem ho_any (J : Out → Prop) (h : Ho W n (exS s ρ) J) (k : ∀ u, J u → Ho W n' ((match u with
    | .nx ρ' => exSs ss ρ'
    | o => pure o) >>= f) R) : Ho W (n + n') (exSs (.cons s ss) ρ >>= f) R := by
  rw [exSs_cons, bind_assoc]
  exact h.bind k
theorem ho_do (J : List Sl → Prop) (h : Ho W n (exS s ρ) fun u => ∃ ρ', u = .nx ρ' ∧ J ρ') (k : ∀ ρ', J ρ' → Ho W n' (exSs ss ρ' >>= f) R) : Ho W (n + n') (exSs (.cons s ss) ρ >>= f) R :=
  ho_any _ h fun u ⟨ρ', e, j⟩ => by subst e; exact k ρ' j
theorem ho_ret (J : D → Prop) (h : Ho W n (exS s ρ) fun u => ∃ d, u = .rt d ∧ J d) (k : ∀ d, J d → Ho W n' (f (.rt d)) R) : Ho W (n + n') (exSs (.cons s ss) ρ >>= f) R :=
  ho_any _ h fun u ⟨d, e, j⟩ => by subst e; rw [pure_bind]; exact k d j
theorem ho_ife {c : Ex} {a b : Sts} (J : Bool → Prop) (hc : Ho W n (do asB (← ev c ρ)) J)
    (kt : J true → Ho W n' (exSs a ρ >>= fun u => (match u with
      | .nx ρ' => exSs ss ρ'
      | o => pure o) >>= f) R)
    (kf : J false → Ho W n' (exSs b ρ >>= fun u => (match u with
      | .nx ρ' => exSs ss ρ'
      | o => pure o) >>= f) R) : Ho W (n + n') (exSs (.cons (.ife c a b) ss) ρ >>= f) R := by
  have key : Ho W (n + n') ((do asB (← ev c ρ) : M Bool) >>= fun k => (if k = true then exSs a ρ else exSs b ρ) >>= fun u => (match u with
      | .nx ρ' => exSs ss ρ'
      | o => pure o) >>= f) R := hc.bind fun k j => by
    cases k with
    | true => exact kt j
    | false => exact kf j
  intro g k w
  obtain ⟨x, g', e, w', r⟩ := key g k w
  refine ⟨x, g', ?_, w', r⟩
  obtain ⟨bb, g2, e2, _, _⟩ := hc g (k + n') (by rw [show k + n' + n = k + (n + n') by omega]; exact w)
  have e : M.bnd (do asB (← ev c ρ) : M Bool) (fun k => (if k = true then exSs a ρ else exSs b ρ) >>= fun u => (match u with
      | .nx ρ' => exSs ss ρ'
      | o => pure o) >>= f) g = .ok x g' := e
  unfold M.bnd at e
  rw [e2] at e
  have e : ((if bb = true then exSs a ρ else exSs b ρ) >>= fun u => (match u with
      | .nx ρ' => exSs ss ρ'
      | o => pure o) >>= f) g2 = .ok x g' := e
  rw [exSs_cons, exS_ife, bind_assoc]
  show M.bnd (lif _ ρ _) _ g = _
  unfold M.bnd lif
  rw [e2]
  exact e
theorem ho_ifT {c : Ex} {a b : Sts} (hc : ev c ρ = pure (.bl true)) (kt : Ho W n (exSs a ρ >>= fun u => (match u with
      | .nx ρ' => exSs ss ρ'
      | o => pure o) >>= f) R) : Ho W n (exSs (.cons (.ife c a b) ss) ρ >>= f) R := by
  rw [exSs_cons, exS_ife, hc, bind_assoc]
  exact kt
theorem ho_ifF {c : Ex} {a b : Sts} (hc : ev c ρ = pure (.bl false)) (kt : Ho W n (exSs b ρ >>= fun u => (match u with
      | .nx ρ' => exSs ss ρ'
      | o => pure o) >>= f) R) : Ho W n (exSs (.cons (.ife c a b) ss) ρ >>= f) R := by
  rw [exSs_cons, exS_ife, hc, bind_assoc]
  exact kt
theorem ho_set {e : Ex} {i : Nat} (J : D → Prop) (h : Ho W n (ev e ρ) J) (p : noOwn ρ e.vs = true) (k : ∀ d, J d → Ho W n' (exSs ss (ρ.set i (.val d)) >>= f) R) : Ho W (n + n') (exSs (.cons (.set 0 i e) ss) ρ >>= f) R := by
  refine ho_do (fun ρ' => ∃ d, J d ∧ ρ' = ρ.set i (.val d)) ?_ fun ρ' ⟨d, j, e⟩ => by subst e; exact k d j
  rw [exS_set0]
  exact h.lif (n' := 0) fun d j => .pure ⟨_, rfl, d, j, by rw [shr_no p]⟩
theorem ho_end {J : Out → Prop} (k : Ho W n (exSs ss ρ >>= pure) J) : Ho W n (exSs ss ρ) J := by
  rw [bind_pure] at k; exact k
theorem ho_for (mono : ∀ g i j, i ≤ j → W g j → W g i) {tg : Tg} {it : It} {a : Sts} {ds : List D} {N : Nat} (ρ1 : List Sl) (c : Nat) (hN : ds.length = N) (hi : evIt it ρ = pure ds) (hf : frz ρ it.lk = ρ1) (I : Nat → List Sl → Prop) (E : Out → Prop) (h0 : I 0 ρ1)
    (step : ∀ i (h : i < ds.length) ρ, I i ρ → Ho W c (forB tg a ds[i] ρ) fun u => match u with
      | .nx ρ' | .ct ρ' => I (i + 1) ρ'
      | .bk ρ' => E (.nx ρ')
      | u => E u) (fin : ∀ u, (E u ∨ ∃ ρ', u = .nx ρ' ∧ I N ρ') → Ho W n' ((match u with
        | .nx ρ' => exSs ss ρ'
        | o => pure o) >>= f) R) : Ho W (N * c + n') (exSs (.cons (.for_ tg it a) ss) ρ >>= f) R := by
  subst hN
  refine ho_any _ ?_ fin
  rw [exS_for, hi, lif_pure, hf]
  exact Ho.forL mono E I h0 step
theorem ho_forE (mono : ∀ g i j, i ≤ j → W g j → W g i) {tg : Tg} {it : It} {a : Sts} {n0 N : Nat} (ρ1 : List Sl) (c : Nat) (Jd : List D → Prop) (hi : Ho W n0 (evIt it ρ) fun ds => ds.length = N ∧ Jd ds) (hf : frz ρ it.lk = ρ1) (I : Nat → List Sl → Prop) (E : Out → Prop) (h0 : I 0 ρ1)
    (step : ∀ ds, Jd ds → ∀ i (h : i < ds.length) ρ, I i ρ → Ho W c (forB tg a ds[i] ρ) fun u => match u with
      | .nx ρ' | .ct ρ' => I (i + 1) ρ'
      | .bk ρ' => E (.nx ρ')
      | u => E u) (fin : ∀ u, (E u ∨ ∃ ρ', u = .nx ρ' ∧ I N ρ') → Ho W n' ((match u with
        | .nx ρ' => exSs ss ρ'
        | o => pure o) >>= f) R) : Ho W ((n0 + N * c) + n') (exSs (.cons (.for_ tg it a) ss) ρ >>= f) R := by
  refine ho_any _ ?_ fin
  rw [exS_for]
  refine hi.lif fun ds ⟨h1, h2⟩ => ?_
  subst h1
  rw [hf]
  exact Ho.forL mono E I h0 (step ds h2)
theorem ho_ifD {J : Out → Prop} {c : Ex} {a b : Sts} (k : Bool) (hc : ev c ρ = pure (.bl k)) (h : Ho W n (exSs (if k = true then a else b) ρ >>= pure) J) : Ho W n (exS (.ife c a b) ρ) J := by
  rw [exS_ife, hc]
  rw [bind_pure] at h
  cases k <;> exact h
theorem ho_run {fn : Fn} {ds : List D} {R : D → Prop} (h : ds.length = fn.n) (k : Ho W n (exSs fn.body (ds.map Sl.val ++ List.replicate (fn.m - fn.n) Sl.no) >>= fun u => match u with
    | .rt d => pure d
    | .nx _ => pure .non
    | .ex e _ => M.thr e
    | _ => M.stk) R) : Ho W n (TI.run fn ds) R := by
  rw [run_eq h]; exact k
end
end TI
set_option Elab.async false
set_option linter.all false
set_option maxRecDepth 100000
set_option maxHeartbeats 4000000
/-! __init__ of the own classes of exceptions: self.f = f, one after the other -/
namespace TI
open PySem PySem.Spec PyProof.Rows L2
def mIni (N : List Str) (sc : Scope) : List Str → Nat → List Stmt → Bool
  | [], _, [] => true
  | f :: fs, k, .Assign [.Attribute (.Name s _) g _] (.Name y _) _ :: r => decide (f = g) && (mName N sc 0 s && (mName N sc k y && mIni N sc fs (k + 1) r))
  | _, _, _ => false
section
variable {X : Cx} {sc : Scope}
def nextI (D : Ends) (a C : Addr) (fs : List Str) (ws : List V) (σ : L2.St) (H : Hp) : Prop :=
  (H a = some (exo a C none) ∧ fs ≠ [] ∧ fs.length ≤ 900 ∧ ∀ dx, H dx = none → dx ≠ a → D.nx σ (upd (upd H dx (exd dx (fs.zip ws).reverse)) a (exo a C (some dx)))) ∨
  ∃ dx gs, H a = some (exo a C (some dx)) ∧ H dx = some (exd dx gs) ∧ dx ≠ a ∧ gs.length + fs.length ≤ 900 ∧ D.nx σ (upd H dx (exd dx ((fs.zip ws).reverse ++ gs)))
def tIni (K : PySem.W.Frag) (fs : List Str) (k : Nat) : TS := fun D σ H => ∃ (a C : Addr) (ws : List V), OexC K C ∧ (∀ f ∈ fs, PySem.W.findIn K (.ref C) f = some none) ∧ σ[0]? = some (some (.ref a)) ∧ ws.length = fs.length ∧
  (∀ j v, ws[j]? = some v → σ[k + j]? = some (some v)) ∧ nextI D a C fs ws σ H
theorem upd_self {H : Hp} {a : Addr} {o : HO} (h : H a = some o) : upd H a o = H := by
  funext b
  by_cases e : b = a
  · rw [e, upd_same, h]
  · rw [upd_ne e]
theorem upd_upd {H : Hp} {a : Addr} {o u : HO} : upd (upd H a o) a u = upd H a u := by
  funext b
  by_cases e : b = a
  · rw [e, upd_same, upd_same]
  · rw [upd_ne e, upd_ne e, upd_ne e]
theorem upd_comm {H : Hp} {a b : Addr} {o u : HO} (n : a ≠ b) : upd (upd H a o) b u = upd (upd H b u) a o := by
  funext c
  by_cases e : c = a
  · rw [e, upd_ne n, upd_same, upd_same]
  · by_cases e2 : c = b
    · rw [e2, upd_same, upd_ne (Ne.symm n), upd_same]
    · rw [upd_ne e2, upd_ne e, upd_ne e, upd_ne e2]
theorem ini_ps (hsc : X.env.scope = sc) : ∀ (fs : List Str) (k : Nat) (body : List Stmt), mIni X.N sc fs k body = true → PSs X body (tIni X.K fs k)
  | [], k, [], h => ⟨fun pins s σ H D I ⟨a, C, ws, T, _, s0, wl, sj, q⟩ => by
    refine pss_nil.run pins s σ H D I ?_
    rcases q with ⟨_, q, _⟩ | ⟨dx, gs, e1, e2, e3, _, q⟩
    · exact absurd rfl q
    · simp only [List.zip_nil_left, List.reverse_nil, List.nil_append] at q
      rw [upd_self e2] at q
      exact q⟩
  | [], k, _ :: _, h => by simp [mIni] at h
  | f :: fs, k, body, h => by
    obtain ⟨s, p, g, p', y, q, pos, r, rfl, h9⟩ : ∃ s p g p' y q pos r, body = .Assign [.Attribute (.Name s p) g p'] (.Name y q) pos :: r ∧ (decide (f = g) && (mName X.N sc 0 s && (mName X.N sc k y && mIni X.N sc fs (k + 1) r))) = true := by
      unfold mIni at h
      split at h
      · rename_i hh; cases hh
      · rename_i hh
        cases hh
        exact ⟨_, _, _, _, _, _, _, _, rfl, h⟩
      · cases h
    simp only [Bool.and_eq_true, decide_eq_true_eq] at h9
    obtain ⟨rfl, h1, h2, h3⟩ := h9
    obtain ⟨a1, a2, a3, a4⟩ := name_vis h1
    obtain ⟨b1, b2, b3, b4⟩ := name_vis h2
    refine ⟨fun pins s0 σ H D I w => (pss_cons (ps_ost (pe_var a1 (by rw [hsc]; exact a2) a3 a4) (pe_var b1 (by rw [hsc]; exact b2) b3 b4)) (ini_ps hsc fs (k + 1) r h3)).run pins s0 σ H D I ?_⟩
    obtain ⟨a, C, ws, T, hf, s0, wl, sj, q⟩ := w
    cases ws with
    | nil => simp at wl
    | cons v ws =>
      have wl' : ws.length = fs.length := by simpa using wl
      have s1 : ∀ (j : Nat) (u : V), ws[j]? = some u → σ[k + 1 + j]? = some (some u) := fun j u e => by
        have := sj (j + 1) u (by simpa using e)
        rw [show k + 1 + j = k + (j + 1) from by omega]; exact this
      refine ⟨v, by simpa using sj 0 v rfl, .ref a, s0, a, C, rfl, T, hf f List.mem_cons_self, ?_⟩
      have hf' : ∀ g ∈ fs, PySem.W.findIn X.K (.ref C) g = some none := fun g hg => hf g (List.mem_cons_of_mem _ hg)
      rcases q with ⟨e1, e2, e3, q⟩ | ⟨dx, gs, e1, e2, e3, e4, q⟩
      · refine .inl ⟨e1, fun dx n ne => ⟨a, C, ws, T, hf', s0, wl', s1, .inr ⟨dx, [(f, v)], upd_same, by rw [upd_ne ne, upd_same], ne, by simp at e3 ⊢; omega, ?_⟩⟩⟩
        have := q dx n ne
        rw [upd_comm (Ne.symm ne), upd_upd]
        simpa using this
      · refine .inr ⟨dx, gs, e1, e2, by simp at e4; omega, a, C, ws, T, hf', s0, wl', s1, .inr ⟨dx, (f, v) :: gs, by rw [upd_ne (Ne.symm e3)]; exact e1, upd_same, e3, by simp at e4 ⊢; omega, ?_⟩⟩
        rw [upd_upd]
        simpa using q
end
/-- a class of exceptions, its __init__ -/
structure ClF (K : PySem.W.Frag) (mg : Str → Option Value) (x : Str) (st : Stmt) (ps fs : List Str) : Prop where
  ex : ∃ (C fI : Addr) (fd : FuncData) (qual : Str), mg x = some (.ref C) ∧ OexC K C ∧ PySem.W.findIn K (.ref C) "__init__" = some (some (.ref fI)) ∧ PySem.W.typeIn K (.ref fI) = some (.type "function") ∧ Binds K fd ps [] ∧ Fun K "__init__" qual st fI fd ∧
    ∀ f ∈ fs, PySem.W.findIn K (.ref C) f = some none
theorem rs_ok {P : Program} {w : World} {K : PySem.W.Frag} {mg : Str → Option Value} {base : Heap} {x : Str} {st : Stmt} {ps fs : List Str} (c : ClF K mg x st ps fs) (S : FnScope ps ps (defScope st)) (hb : mIni ps (defScope st) fs 1 (defBody st) = true) (hl : ps.length = fs.length + 1) (few : fs.length ≤ 900) (ne : fs ≠ []) (hn : (fs.map fun f => f).reverse = nms) :
    RsOk P w K mg base x nms := by
  obtain ⟨C, fI, fd, qual, c1, c2, c3, c4, c5, F, c7⟩ := c.ex
  have hr : nms = fs.reverse := by rw [← hn]; simp
  subst hr
  refine ⟨⟨C, fI, fd, ps, c1, c2, c3, c4, c5, by simpa using hl, ?_⟩, by simpa using few⟩
  refine F.okX (k := 0) S (fun vs H Q E h => ?_) fun cdv A outer s H vs Q E hr h => ?_
  · obtain ⟨a, ws, h1, h2, _⟩ := h
    exact h2
  · obtain ⟨a, ws, rfl, h2, h3, h4, h5⟩ := h
    let X : Cx := cxOf (L2.CX P w) P w K mg base ps qual (defScope st) fI cdv A outer s H E
    refine ⟨_, ini_ps (X := X) (sc := defScope st) rfl fs 1 (defBody st) hb, a, C, ws, c2, c7, ?_, by simpa using h3, fun j v e => ?_, .inl ⟨h4, ne, few, fun dx n nn => ?_⟩⟩
    · simp [L2.start]
    · unfold L2.start
      rw [List.getElem?_append_left (by
        have := (List.getElem?_eq_some_iff.mp e).1
        simp; omega)]
      rw [show 1 + j = j + 1 from by omega]
      simp [e]
    · refine h5 _ dx n nn (fun b b1 b2 => by rw [upd_ne b1, upd_ne b2]) upd_same ?_
      rw [upd_ne nn, upd_same]
      congr 2
      rw [List.zip_eq_zipWith, List.zip_eq_zipWith, List.reverse_zipWith (by simpa using h3.symm)]
end TI
set_option Elab.async false
set_option linter.all false
/-! small words of the ends -/
namespace TI
open PySem PySem.Spec PyProof.Rows L2
theorem lookup_mem {α : Type} {k : Str} {a : α} : ∀ {l : List (Str × α)}, l.lookup k = some a → (k, a) ∈ l
  | [], h => by simp at h
  | (x, b) :: l, h => by
    rw [List.lookup_cons] at h
    by_cases e : (k == x) = true
    · rw [e] at h
      cases h
      rw [beq_iff_eq.mp e]
      exact List.mem_cons_self
    · simp only [Bool.not_eq_true] at e
      rw [e] at h
      exact List.mem_cons_of_mem _ (lookup_mem h)
section
variable {K : PySem.W.Frag} {C D : Addr} {b : Bool} {n : String}
theorem kit_own (h1 : PySem.W.isClsIn K D = true) (h2 : PySem.W.typeIn K (.ref D) = some (.type "type")) (h3 : PySem.W.subIn K (.ref C) (.ref D) = some b) (h4 : PySem.W.subIn K (.ref C) (.ref C) = some true) : PySem.W.kitOne K (.ref C) (.ref D) = some b := by
  unfold PySem.W.kitOne
  by_cases e : (Value.ref C == Value.ref D) = true
  · have e' : C = D := Value.ref.inj (beq_iff_eq.mp e)
    subst e'
    rw [if_pos e, ← h3, h4]
  · rw [if_neg e]
    have h1' : (PySem.W.clsIn K D).isSome = true := h1
    show (if ((PySem.W.clsIn K D).isSome && PySem.W.typeIn K (.ref D) == some (.type "type")) = true then PySem.W.subIn K (.ref C) (.ref D) else none) = some b
    rw [if_pos (by rw [h1', h2]; rfl), h3]
theorem kit_bty (h1 : PySem.W.kitMeta n = true) (h3 : PySem.W.subIn K (.ref C) (.type n) = some b) : PySem.W.kitOne K (.ref C) (.type n) = some b := by
  unfold PySem.W.kitOne
  rw [if_neg (show ¬ (Value.ref C == Value.type n) = true from by simp)]
  show (if PySem.W.kitMeta n = true then PySem.W.subIn K (.ref C) (.type n) else none) = some b
  rw [if_pos h1, h3]
theorem exm_own (h0 : PySem.W.subIn K (.ref D) (.type "BaseException") = some true) (h1 : PySem.W.isClsIn K D = true) (h2 : PySem.W.typeIn K (.ref D) = some (.type "type")) (h3 : PySem.W.subIn K (.ref C) (.ref D) = some b) : PySem.W.exmOne K (.ref C) (.ref D) = some b := by
  have h1' : (PySem.W.clsIn K D).isSome = true := h1
  show (if (PySem.W.subIn K (.ref D) (.type "BaseException") == some true) = true then (if ((PySem.W.clsIn K D).isSome && PySem.W.typeIn K (.ref D) == some (.type "type")) = true then PySem.W.subIn K (.ref C) (.ref D) else none) else none) = some b
  rw [if_pos (by rw [h0]; rfl), if_pos (by rw [h1', h2]; rfl), h3]
end
end TI
set_option Elab.async false
set_option linter.all false
set_option maxRecDepth 100000
/-! the well of law k86 (and of its like) -/
namespace TI
open PySem PySem.Spec PyProof.Rows L2
def drawn (cell stir turn : Int) : Int :=
  let one := ((cell % 999999937 + stir * 257 + turn * 104729 + 5) * 69069 + turn * turn * 362437) % 4294967291
  let two := (Builtin.bitXor one (one / 2 ^ (13 : Int).toNat) * 40503 + 977) % 4294967291
  two / 2 ^ (7 : Int).toNat
def pickG (many : Int) : M Int := fun g => match g with
  | [cells, [turn], [stir]] =>
    if 0 < many ∧ many < 1073741824 ∧ 0 ≤ turn ∧ turn < 2 ^ 64 ∧ cells ≠ [] then
      let p := (turn % cells.length).toNat
      let cell := cells.getD p 0
      if 10 ^ 18 ≤ cell ∨ cell ≤ -10 ^ 18 then .ok (cell % many) [cells.set p (cell / many), [turn + 1], [stir]]
      else .ok (drawn cell stir turn % many) [cells, [turn + 1], [stir]]
    else .stuck
  | _ => .stuck
def s__law_pick : Sem := fun ds => match ds with
  | [.wel, .int many] => do pure (.int (← pickG many))
  | _ => M.stk
def wellH (r c : Addr) (cells : List Int) (turn stir : Int) (H : Hp) : Prop :=
  H r = some (.dK [(.inr ("cells" : Str), .ref c), (.inr ("turn" : Str), .int turn), (.inr ("stir" : Str), .int stir)]) ∧ H c = some (.lst (cells.map V.int))
def wellZ (r c : Addr) : Spc where
  r := r
  F := fun a => a = r ∨ a = c
  At := fun g H => ∃ cells turn stir, g = [cells, [turn], [stir]] ∧ wellH r c cells turn stir H
  loc := fun {g H H'} ⟨cells, turn, stir, e, h1, h2⟩ k => ⟨cells, turn, stir, e, k r _ (.inl rfl) h1, k c _ (.inr rfl) h2⟩
  mu := fun {g H} ⟨cells, turn, stir, e, h1, h2⟩ a ha => by
    rcases ha with rfl | rfl
    · exact ⟨_, h1, rfl⟩
    · exact ⟨_, h2, rfl⟩
end TI
set_option Elab.async false
set_option linter.all false
set_option maxRecDepth 100000
set_option maxHeartbeats 4000000
/-! the well of law k86: made and drawn from -/
namespace K86
open PySem PySem.Spec PyProof.Rows L2 TI
def topS (i : Nat) : Stmt := PySem.Challenge.pw_saidbefore_k86_whole_bounds.main.body.getD i (.Pass ⟨0, 0, 0, 0⟩)
def N_pick : List Str := ["well", "many", "turn", "cells", "place", "cell", "one", "two"]
theorem sc_pick : FnScope N_pick ["well", "many"] (defScope (topS 32)) := ⟨rfl, rfl, rfl, by decide +kernel, rfl, by decide +kernel, by decide +kernel⟩
section
variable {P : Program} {w : World} {K : PySem.W.Frag} {mg : Str → Option Value} {base : Heap}
theorem val_cells {c : V} {t s : V} : valV [(.inr ("cells" : Str), c), (.inr ("turn" : Str), t), (.inr ("stir" : Str), s)] (.inr ("cells" : Str) : Key) = some c := by rfl
theorem val_turn {c : V} {t s : V} : valV [(.inr ("cells" : Str), c), (.inr ("turn" : Str), t), (.inr ("stir" : Str), s)] (.inr ("turn" : Str) : Key) = some t := by rfl
theorem val_stir {c : V} {t s : V} : valV [(.inr ("cells" : Str), c), (.inr ("turn" : Str), t), (.inr ("stir" : Str), s)] (.inr ("stir" : Str) : Key) = some s := by rfl
theorem put_turn {c : V} {t s u : V} : putK [(.inr ("cells" : Str), c), (.inr ("turn" : Str), t), (.inr ("stir" : Str), s)] (.inr ("turn" : Str) : Key) u = [(.inr ("cells" : Str), c), (.inr ("turn" : Str), u), (.inr ("stir" : Str), s)] := by rfl
abbrev mInt (e : TE) : TE := tCB (fun xs H Q => (∃ i, xs = [.int i] ∧ Q (.int i) H) ∨ ∃ k, xs = [.bl k] ∧ Q (.int (if k then 1 else 0)) H) (tCons e tNil)
theorem ok_pick {r c : Addr} {f : Addr} {fd : FuncData} (F : Fun K "_law_pick" "_law_pick" (topS 32) f fd) (b : Binds K fd ["well", "many"] []) (mf : mg "_law_pick" = some (.ref f)) (ml : mg "len" = none) (mi : mg "int" = none) : GFn P w K mg base (wellZ r c) 1 "_law_pick" s__law_pick := by
  refine ⟨f, fd, ["well", "many"], mf, F.kp, b, F.okX sc_pick (fun vs H Q E h => h.1) (fun cdv A outer s H vs Q E hr h => ?_), fun ds g h => ?_⟩
  · obtain ⟨hl, B, ds, g, sub, bok, a, n, w'⟩ := h
    have hu := hu_of hr
    refine ⟨_, pss_cons (ps_set (i := 2) sc_pick.nd rfl (.inl rfl) (pe_dget hu (pv 0) pe_str (fun _ _ => rfl)))
      (pss_cons (ps_dput hu (pv 0) pe_str (pe_op op_add (pv 2) pe_int) rfl)
      (pss_cons (ps_set (i := 3) sc_pick.nd rfl (.inl rfl) (pe_dget hu (pv 0) pe_str (fun _ _ => rfl)))
      (pss_cons (ps_set (i := 4) sc_pick.nd rfl (.inl rfl) (pe_op op_mod (pe_callTy call_int1 (by rfl) mi PyProof.Rows.boot_int (pa_cons (pv 2) pa_nil)) (pe_callB call_len_seq (by rfl) ml PySem.boot_len (pa_cons (pv 3) pa_nil))))
      (pss_cons (ps_set (i := 5) sc_pick.nd rfl (.inl rfl) (pe_ix ix_list (pv 3) (pv 4) (fun _ _ => rfl)))
      (pss_cons (ps_if (pw_or (pt_cmpR op_ge (pv 5) (pe_op op_pow pe_int pe_int) (nomark _)) (pw_or1 (pt_cmpR op_le (pv 5) (pe_un un_neg (pe_op op_pow pe_int pe_int)) (nomark _)))).pt
        (pss_cons (ps_asg (pe_op op_fdiv (pv 5) (pv 1)) (pg_sub (pv 3) (pv 4) set_list) rfl)
        (pss_one (ps_ret (pe_op op_mod (pe_callTy call_int1 (by rfl) mi PyProof.Rows.boot_int (pa_cons (pv 5) pa_nil)) (pv 1)))))
        pss_nil)
      (pss_cons (ps_set (i := 6) sc_pick.nd rfl (.inl rfl) (pe_op op_mod (pe_callTy call_int1 (by rfl) mi PyProof.Rows.boot_int (pa_cons
          (pe_op op_add (pe_op op_mul (pe_op op_add (pe_op op_add (pe_op op_add (pe_op op_mod (pe_callTy call_int1 (by rfl) mi PyProof.Rows.boot_int (pa_cons (pv 5) pa_nil)) pe_int)
            (pe_op op_mul (pe_dget hu (pv 0) pe_str (fun _ _ => rfl)) pe_int)) (pe_op op_mul (pv 2) pe_int)) pe_int) pe_int) (pe_op op_mul (pe_op op_mul (pv 2) (pv 2)) pe_int)) pa_nil)) pe_int))
      (pss_cons (ps_set (i := 7) sc_pick.nd rfl (.inl rfl) (pe_op op_mod (pe_callTy call_int1 (by rfl) mi PyProof.Rows.boot_int (pa_cons (pe_op op_add (pe_op op_mul (pe_op op_xor (pv 6) (pe_op op_shr (pv 6) pe_int)) pe_int) pe_int) pa_nil)) pe_int))
      (pss_one (ps_ret (pe_op op_mod (pe_callTy call_int1 (by rfl) mi PyProof.Rows.boot_int (pa_cons (pe_op op_shr (pv 7) pe_int) pa_nil)) (pv 1))))))))))), ?_⟩
    obtain ⟨many, rfl⟩ : ∃ many, ds = [.wel, .int many] := by
      unfold s__law_pick at w'
      split at w'
      · exact ⟨_, rfl⟩
      · exact w'.elim
    cases n with
    | cons n1 n2 =>
    cases n2 with
    | cons n2 n3 =>
    cases n3
    cases n1
    cases n2
    obtain ⟨cells, turn, stir, rfl, h1, h2⟩ := a
    have w' : Wr (wellZ r c) H (fun d x H' => ∀ (v : V), Den K (wellZ r c).r H' B v d → Q v H') _ (M.bnd (pickG many) (fun i => pure (.int i)) [cells, [turn], [stir]]) := w'
    unfold M.bnd pickG at w'
    simp only at w'
    split at w'
    · rename_i e
      split at e
      · rename_i hc
        obtain ⟨hm0, hm1, ht0, ht1, hc0⟩ := hc
        have hlen : 0 < cells.length := List.length_pos_iff.mpr hc0
        have hL : (0 : Int) < (cells.length : Int) := by omega
        have hp0 : 0 ≤ turn % (cells.length : Int) := Int.emod_nonneg _ (by omega)
        have hp1 : turn % (cells.length : Int) < cells.length := Int.emod_lt_of_pos _ hL
        obtain ⟨p, hp⟩ : ∃ p : Nat, turn % (cells.length : Int) = p := ⟨(turn % (cells.length : Int)).toNat, by omega⟩
        have hpl : p < cells.length := by omega
        have ne : r ≠ c := ne_of h1 h2 (by intro z; cases z)
        rw [hp, Int.toNat_natCast] at e
        have hg : cells.getD p 0 = cells[p] := by simp [List.getD, hpl]
        rw [hg] at e
        -- turn
        refine ⟨_, rfl, r, .int turn, rfl, DGet.k (k := .inr ("turn" : Str)) h1, ?_⟩
        refine ⟨_, rfl, _, _, rfl, rfl, _, rfl, r, _, rfl, DPut.k (k := .inr ("turn" : Str)) h1 (by show (3 : Nat) < sizeLine; decide +kernel), ?_⟩
        rw [put_turn]
        have g1 : (upd H r (.dK [(.inr ("cells" : Str), .ref c), (.inr ("turn" : Str), .int (turn + 1)), (.inr ("stir" : Str), .int stir)])) r = some (.dK [(.inr ("cells" : Str), .ref c), (.inr ("turn" : Str), .int (turn + 1)), (.inr ("stir" : Str), .int stir)]) := upd_same
        have g2 : (upd H r (.dK [(.inr ("cells" : Str), .ref c), (.inr ("turn" : Str), .int (turn + 1)), (.inr ("stir" : Str), .int stir)])) c = some (.lst (cells.map V.int)) := by rw [upd_ne ne.symm]; exact h2
        have fr1 : Fr (wellZ r c).F H (upd H r (.dK [(.inr ("cells" : Str), .ref c), (.inr ("turn" : Str), .int (turn + 1)), (.inr ("stir" : Str), .int stir)])) := .put (.inl rfl)
        generalize upd H r (.dK [(.inr ("cells" : Str), .ref c), (.inr ("turn" : Str), .int (turn + 1)), (.inr ("stir" : Str), .int stir)]) = H1 at g1 g2 fr1
        -- cells
        refine ⟨_, rfl, r, .ref c, rfl, DGet.k (k := .inr ("cells" : Str)) g1, ?_⟩
        -- place
        refine ⟨_, rfl, .inl ⟨_, rfl, _, rfl, c, _, rfl, .inl (SqL.of g2), turn, (cells.length : Int), rfl, by rw [List.length_map], hL, ?_⟩⟩
        -- cell
        refine ⟨_, rfl, _, rfl, c, _, _, .int cells[p], rfl, rfl, SqL.of g2, by rw [hp]; exact atI_nat (by simp [hpl]), ?_⟩
        -- great ones
        refine ⟨_, rfl, _, _, rfl, rfl, ⟨by decide, by decide, by decide⟩, _, _, rfl, rfl, _, rfl, ?_⟩
        have great : (10 ^ 18 ≤ cells[p] ∨ cells[p] ≤ -10 ^ 18) → Q (.int (cells[p] % many)) (upd H1 c (.lst ((cells.set p (cells[p] / many)).map V.int))) := fun z => by
          rw [if_pos z] at e
          cases e
          refine w' _ (fr1.trans (.put (.inr rfl))) ⟨_, _, _, rfl, ?_, upd_same⟩ _ (.int _)
          rw [upd_ne ne]; exact g1
        have small : ¬ (10 ^ 18 ≤ cells[p] ∨ cells[p] ≤ -10 ^ 18) → Q (.int (drawn cells[p] stir turn % many)) H1 := fun z => by
          rw [if_neg z] at e
          cases e
          exact w' _ fr1 ⟨_, _, _, rfl, g1, g2⟩ _ (.int _)
        have hix : ixN (cells.map V.int).length (turn % (cells.length : Int)) = some p := by
          rw [hp, List.length_map]
          unfold ixN
          rw [if_pos (by omega), if_pos (by omega)]; simp
        have gset : ∀ x : Int, (cells.map V.int).set p (.int x) = (cells.set p x).map V.int := fun x => by rw [List.map_set]
        have body1 : (10 ^ 18 ≤ cells[p] ∨ cells[p] ≤ -10 ^ 18) → _ := great
        refine ite2 (fun z1 => ?_) (fun z1 => ?_)
        · refine iteT ?_
          refine ⟨_, rfl, _, rfl, _, _, rfl, rfl, ⟨hm0, hm1⟩, _, rfl, _, rfl, c, _, _, p, rfl, rfl, g2, hix, ?_⟩
          refine ⟨_, rfl, .inl ⟨_, rfl, _, rfl, _, _, rfl, rfl, hm0, ?_⟩⟩
          rw [gset]
          exact great (.inl (of_decide_eq_true z1))
        · refine ⟨_, rfl, _, _, rfl, rfl, ⟨by decide, by decide, by decide⟩, _, rfl, _, _, rfl, rfl, _, rfl, ?_⟩
          refine ite2 (fun z2 => ?_) (fun z2 => ?_)
          · refine ⟨_, rfl, _, rfl, _, _, rfl, rfl, ⟨hm0, hm1⟩, _, rfl, _, rfl, c, _, _, p, rfl, rfl, g2, hix, ?_⟩
            refine ⟨_, rfl, .inl ⟨_, rfl, _, rfl, _, _, rfl, rfl, hm0, ?_⟩⟩
            rw [gset]
            exact great (.inr (of_decide_eq_true z2))
          · have z3 : ¬ (10 ^ 18 ≤ cells[p] ∨ cells[p] ≤ -10 ^ 18) := fun z => by
              rcases z with z | z
              · exact z1 (decide_eq_true z)
              · exact z2 (decide_eq_true z)
            -- one
            refine ⟨_, rfl, .inl ⟨_, rfl, _, _, rfl, rfl, (by show (0 : Int) < 999999937; decide), _, rfl, r, .int stir, rfl, DGet.k (k := .inr ("stir" : Str)) g1, _, _, rfl, rfl, .inr ⟨by decide, by decide⟩, _, _, rfl, rfl,
              _, rfl, _, _, rfl, rfl, .inr ⟨by decide, by decide⟩, _, _, rfl, rfl, _, _, rfl, rfl, _, _, rfl, rfl, .inr ⟨by decide, by decide⟩,
              _, rfl, _, rfl, _, _, rfl, rfl, .inl ⟨by omega, by omega⟩, _, _, rfl, rfl, .inr ⟨by decide, by decide⟩, _, _, rfl, rfl,
              .inl ⟨_, rfl, _, _, rfl, rfl, (by show (0 : Int) < 4294967291; decide), ?_⟩⟩⟩
            -- two
            refine ⟨_, rfl, _, rfl, _, _, rfl, rfl, (by show (0 : Int) ≤ 13; decide), _, _, rfl, rfl, _, _, rfl, rfl, .inr ⟨by decide, by decide⟩, _, _, rfl, rfl, .inl ⟨_, rfl, _, _, rfl, rfl, (by show (0 : Int) < 4294967291; decide), ?_⟩⟩
            refine ⟨_, rfl, _, _, rfl, rfl, (by show (0 : Int) ≤ 7; decide), .inl ⟨_, rfl, _, rfl, _, _, rfl, rfl, hm0, ?_⟩⟩
            exact small z3
      · cases e
    · rename_i e
      split at e <;> first | cases e | skip
      all_goals (split at e <;> cases e)
    · exact w'.elim
  · unfold s__law_pick
    split
    · simp at h
    · rfl
def N_well : List Str := ["script", "cells", "cell", "stir"]
theorem sc_well : FnScope N_well ["script"] (defScope (topS 31)) := ⟨rfl, rfl, rfl, by decide +kernel, rfl, by decide +kernel, by decide +kernel⟩
def spWell (K : PySem.W.Frag) : Sp := fun vs H Q _ => ∃ (a : Addr) (ns : List Int), vs = [.ref a] ∧ SqL K H a (ns.map V.int) ∧ ns.length ≤ 63 ∧
  ∀ H' r c cells stir, Same H H' → H r = none → H c = none → cells ≠ [] → wellH r c cells 0 stir H' → Q (.ref r) H'
theorem ok_well {f : Addr} {fd : FuncData} (F : Fun K "_law_well" "_law_well" (topS 31) f fd) (ml : mg "len" = none) (mi : mg "int" = none) : FnOk P w K mg base (L2.CX P w) 1 f fd ["script"] (spWell K) := by
  refine F.okX sc_well (fun vs H Q E h => ?_) (fun cdv A outer s H vs Q E hr h => ?_)
  · obtain ⟨a, ns, rfl, _⟩ := h
    rfl
  · obtain ⟨a, ns, rfl, hS, hl, q⟩ := h
    have hu := hu_of hr
    refine ⟨_, pss_cons (ps_setLc (i := 1) (own := [("cell", 2)]) rfl sc_well.nd rfl rfl (sw_true rfl rfl rfl (by decide +kernel)) (pi_list (pv 0)) (blkOk_by (N := N_well) (sc := defScope (topS 31)) (by decide +kernel))
        (fun _ _ _ _ _ => pg_name (i := 2) sc_well.nd rfl (.inl rfl)) (fun _ _ _ _ _ => pts_nil) (fun _ _ _ _ _ => pe_callTy call_int1 (by rfl) mi PyProof.Rows.boot_int (pa_cons (pv 2) pa_nil)))
      (pss_cons (ps_set (i := 3) sc_well.nd rfl (.inl rfl) (pe_op op_mul pe_int (pe_callB call_len_seq (by rfl) ml PySem.boot_len (pa_cons (pv 1) pa_nil))))
      (pss_cons (ps_for (passes_of rfl) rfl (pi_list (pv 1)) (pg_name (i := 2) sc_well.nd rfl (.inl rfl))
        (pss_one (ps_set (i := 3) sc_well.nd rfl (.inl rfl) (pe_op op_mod (pe_callTy call_int1 (by rfl) mi PyProof.Rows.boot_int (pa_cons (pe_op op_add (pe_op op_mul (pv 3) pe_int) (pv 2)) pa_nil)) pe_int))))
      (pss_cons (ps_if (pt_cmpR op_eq (pe_callB call_len_seq (by rfl) ml PySem.boot_len (pa_cons (pv 1) pa_nil)) pe_int (nomark _)) (pss_one (ps_set (i := 1) sc_well.nd rfl (.inl rfl) (pe_lst (pa_cons pe_int pa_nil)))) pss_nil)
      (pss_one (ps_ret (pe_disp (pps_cons pe_str (pv 1) (pps_cons pe_str pe_int (pps_cons pe_str (pv 3) pps_nil))) rfl rfl (by decide +kernel) (by decide +kernel))))))), ?_⟩
    -- cells
    refine ⟨.ref a, rfl, a, rfl, ⟨_, hS⟩, fun c nc => ?_⟩
    have s1 : ∀ ys, Same H (upd H c (.lst ys)) := fun ys => same_upd nc
    refine lc_list (K := K) (a := a) (xs := ns.map V.int) (fun i H1 => Same H H1 ∧ H1 c = some (.lst ((ns.take i).map V.int))) ⟨s1 _, upd_same⟩ (fun i H1 _ ⟨s, _⟩ => s.seq hS) (fun i x H1 hi ⟨s, e⟩ => ?_) (fun H1 ⟨s, e⟩ => ?_)
    · obtain ⟨z, hz, rfl⟩ : ∃ z, ns[i]? = some z ∧ x = V.int z := by
        rw [List.getElem?_map] at hi
        cases e : ns[i]? with
        | none => rw [e] at hi; cases hi
        | some z => rw [e] at hi; exact ⟨z, rfl, (Option.some.inj hi).symm⟩
      have hl2 : i < ns.length := (List.getElem?_eq_some_iff.mp hz).1
      refine ⟨rfl, _, rfl, .inl ⟨_, rfl, _, e, ?_, fun b o eb => ?_, ?_⟩⟩
      · rw [List.length_map, List.length_take]
        exact Nat.lt_of_le_of_lt (Nat.min_le_left _ _) (small1000 (by omega))
      · rw [upd_ne (ne_of_none eb nc)]; exact s b o eb
      · rw [upd_same, List.take_add_one, hz, List.map_append]; rfl
    · have et : (ns.map V.int).length = ns.length := List.length_map ..
      rw [et, List.take_length] at e
      -- stir
      refine ⟨_, rfl, c, _, rfl, .inl (SqL.of e), _, _, rfl, rfl, .inl ⟨by decide, by decide⟩, ?_⟩
      -- the loop
      refine ⟨_, rfl, c, rfl, ⟨_, SqL.of e⟩, for_list (K := K) (a := c) (xs := ns.map V.int) (fun i σ H2 => ∃ (x : Option V) (t : Int), σ = [some (.ref a), some (.ref c), x, some (.int t)] ∧ Same H H2 ∧ H2 c = some (.lst (ns.map V.int)))
        ⟨none, _, rfl, s, e⟩ (fun i σ H2 _ ⟨x, t, _, _, e2⟩ => SqL.of e2) (fun i x σ H2 hi ⟨x', t, es, s2, e2⟩ => ?_) (fun σ H2 ⟨x', t, es, s2, e2⟩ => ?_)⟩
      · obtain ⟨z, hz, rfl⟩ : ∃ z, ns[i]? = some z ∧ x = V.int z := by
          rw [List.getElem?_map] at hi
          cases e : ns[i]? with
          | none => rw [e] at hi; cases hi
          | some z => rw [e] at hi; exact ⟨z, rfl, (Option.some.inj hi).symm⟩
        subst es
        refine ⟨_, rfl, _, _, rfl, rfl, .inr ⟨by decide, by decide⟩, _, rfl, _, _, rfl, rfl, .inl ⟨_, rfl, _, _, rfl, rfl, (by show (0 : Int) < 999983; decide), ?_⟩⟩
        exact ⟨_, _, rfl, s2, e2⟩
      · subst es
        refine ⟨_, rfl, c, _, rfl, .inl (SqL.of e2), rfl, _, rfl, ?_⟩
        have fin : ∀ (c' : Addr) (cells : List Int) (H3 : Hp), Same H H3 → H c' = none → H3 c' = some (.lst (cells.map V.int)) → cells ≠ [] → ∀ d, H3 d = none → Q (.ref d) (upd (upd H3 d (.dK [])) d (.dK [(.inr ("cells" : Str), .ref c'), (.inr ("turn" : Str), .int 0), (.inr ("stir" : Str), .int t)])) := fun c' cells H3 s3 nc' e3 ne d nd => by
          refine q _ d c' cells t (fun b o eb => ?_) (s3.free nd) nc' ne ⟨upd_same, ?_⟩
          · have : H3 b = some o := s3 b o eb
            rw [upd_ne (ne_of_none this nd), upd_ne (ne_of_none this nd)]; exact this
          · rw [upd_ne (ne_of_none e3 nd), upd_ne (ne_of_none e3 nd)]; exact e3
        refine ite2 (fun z => ?_) (fun z => ?_)
        · refine ⟨by show 1 ≤ sizeLine; decide +kernel, fun c2 nc2 => ?_⟩
          intro d nd
          refine ⟨_, rfl, _, rfl, upd_same, [(.inr ("cells" : Str), .ref c2), (.inr ("turn" : Str), .int 0), (.inr ("stir" : Str), .int t)], rfl, (by show 3 ≤ 15; decide), ?_⟩
          exact fin c2 [0] _ (fun b o eb => by rw [upd_ne (ne_of_none (s2 b o eb) nc2)]; exact s2 b o eb) (s2.free nc2) upd_same (by simp) d nd
        · intro d nd
          refine ⟨_, rfl, _, rfl, upd_same, [(.inr ("cells" : Str), .ref c), (.inr ("turn" : Str), .int 0), (.inr ("stir" : Str), .int t)], rfl, (by show 3 ≤ 15; decide), ?_⟩
          exact fin c ns _ s2 nc e2 (fun h => z (by subst h; rfl)) d nd
end
end K86
set_option Elab.async false
set_option linter.all false
set_option maxRecDepth 100000
/-! the defs of law k86 as terms (written by gen.py) -/
namespace K86
open PySem TI
def tab : List (Str × List Str) := [("NoSuch", ["NoSuch", "AskError", "SaidError", "ValueError"])]
/-- is_number; top 8; calls [] -/
def n_is_number : List Str := ["thing"]
def f_is_number : Fn := ⟨1, 1, (.cons (.ret (.and (.cons (.isi (.var 0) [.int] true) (.cons (.nt (.isi (.var 0) [.bool] true)) .nil)))) .nil)⟩
def s_is_number : Sem := run f_is_number
/-- check_stretch; top 9; calls ['is_number'] -/
def n_check_stretch : List Str := ["text", "thing"]
def f_check_stretch : Fn := ⟨2, 2, (.cons (.ife (.or (.cons (.nt (.isi (.var 1) [.tuple] true)) (.cons (.cmp .NotEq (.blt .len (.cons (.var 1) .nil)) (.con (.int 2))) .nil))) (.cons (.rse "NoSuch" ["name", "word"] (.cons (.con (.str "stretch")) (.cons (.var 1) .nil))) .nil) .nil) (.cons (.ife (.or (.cons (.nt (.call "is_number" s_is_number (.cons (.sub (.var 1) (.con (.int 0))) .nil))) (.cons (.nt (.call "is_number" s_is_number (.cons (.sub (.var 1) (.con (.int 1))) .nil))) .nil))) (.cons (.rse "NoSuch" ["name", "word"] (.cons (.con (.str "stretch")) (.cons (.var 1) .nil))) .nil) .nil) (.cons (.ife (.nt (.cmp3 .LtE .Lt .LtE (.con (.int 0)) (.sub (.var 1) (.con (.int 0))) (.sub (.var 1) (.con (.int 1))) (.blt .len (.cons (.var 0) .nil)))) (.cons (.rse "NoSuch" ["name", "word"] (.cons (.con (.str "stretch")) (.cons (.var 1) .nil))) .nil) .nil) (.cons (.ret (.bin .Sub (.sub (.var 1) (.con (.int 1))) (.sub (.var 1) (.con (.int 0))))) .nil))))⟩
def s_check_stretch : Sem := run f_check_stretch
/-- is_turning; top 12; calls [] -/
def n_is_turning : List Str := ["rule"]
def f_is_turning : Fn := ⟨1, 1, (.cons (.ret (.sub (.var 0) (.neg (.con (.int 2))))) .nil)⟩
def s_is_turning : Sem := run f_is_turning
/-- _heard_by; top 14; calls ['is_turning'] -/
def n__heard_by : List Str := ["case", "number", "first", "many", "elders", "rules", "new", "rule", "part", "low", "high", "at"]
def f__heard_by : Fn := ⟨4, 12, (.cons (.unp (.cons (.nm 4) (.cons (.nm 5) (.cons (.nm 6) .nil))) (.var 0)) (.cons (.set 0 7 (.sub (.var 5) (.var 1))) (.cons (.ife (.cmp .Gt (.var 3) (.sub (.var 7) (.neg (.con (.int 1))))) (.cons (.ret (.con (.bool false))) .nil) .nil) (.cons (.set 0 8 (.slc (.var 6) (.so (.var 2)) (.so (.bin .Add (.var 2) (.var 3))))) (.cons (.ife (.call "is_turning" s_is_turning (.cons (.var 7) .nil)) (.cons (.set 0 8 (.rvs (.var 8))) .nil) .nil) (.cons (.ife (.cmp .Eq (.sub (.var 7) (.con (.int 0))) (.con (.str "elder"))) (.cons (.ret (.cmp .In (.var 8) (.sub (.var 4) (.sub (.var 7) (.con (.int 1)))))) .nil) .nil) (.cons (.set 0 9 (.bin .Sub (.var 2) (.sub (.var 7) (.con (.int 1))))) (.cons (.set 0 10 (.bin .Sub (.var 2) (.con (.int 1)))) (.cons (.ife (.call "is_turning" s_is_turning (.cons (.var 7) .nil)) (.cons (.set 0 9 (.bin .Sub (.bin .Add (.var 9) (.var 3)) (.con (.int 1)))) .nil) .nil) (.cons (.ife (.or (.cons (.call "is_turning" s_is_turning (.cons (.var 7) .nil)) (.cons (.sub (.var 7) (.con (.int 2))) .nil))) (.cons (.set 0 10 (.bin .Sub (.var 2) (.var 3))) .nil) .nil) (.cons (.for_ (.nm 11) (.rng (.cons (.blt .max (.cons (.con (.int 0)) (.cons (.var 9) .nil))) (.cons (.bin .Add (.var 10) (.con (.int 1))) .nil))) (.cons (.ife (.cmp .Eq (.slc (.var 6) (.so (.var 11)) (.so (.bin .Add (.var 11) (.var 3)))) (.var 8)) (.cons (.ret (.con (.bool true))) .nil) .nil) .nil)) (.cons (.ret (.con (.bool false))) .nil))))))))))))⟩
def s__heard_by : Sem := run f__heard_by
/-- is_heard; top 15; calls ['_heard_by', 'check_stretch'] -/
def n_is_heard : List Str := ["case", "stretch", "many", "number"]
def f_is_heard : Fn := ⟨2, 4, (.cons (.set 0 2 (.call "check_stretch" s_check_stretch (.cons (.sub (.var 0) (.con (.int 2))) (.cons (.var 1) .nil)))) (.cons (.ife (.cmp .Eq (.var 2) (.con (.int 1))) (.cons (.ret (.con (.bool true))) .nil) .nil) (.cons (.for_ (.nm 3) (.rng (.cons (.blt .len (.cons (.sub (.var 0) (.con (.int 1))) .nil)) .nil)) (.cons (.ife (.call "_heard_by" s__heard_by (.cons (.var 0) (.cons (.var 3) (.cons (.sub (.var 1) (.con (.int 0))) (.cons (.var 2) .nil))))) (.cons (.ret (.con (.bool true))) .nil) .nil) .nil)) (.cons (.ret (.con (.bool false))) .nil))))⟩
def s_is_heard : Sem := run f_is_heard
/-- reach_table; top 16; calls ['is_heard'] -/
def n_reach_table : List Str := ["case", "new", "told", "end", "first"]
def f_reach_table : Fn := ⟨1, 5, (.cons (.set 0 1 (.sub (.var 0) (.con (.int 2)))) (.cons (.set 1 2 (.lst .nil)) (.cons (.set 0 3 (.con (.int 0))) (.cons (.for_ (.nm 4) (.rng (.cons (.blt .len (.cons (.var 1) .nil)) .nil)) (.cons (.set 0 3 (.blt .max (.cons (.var 3) (.cons (.bin .Add (.var 4) (.con (.int 1))) .nil)))) (.cons (.whl (.and (.cons (.cmp .Lt (.var 3) (.blt .len (.cons (.var 1) .nil))) (.cons (.call "is_heard" s_is_heard (.cons (.var 0) (.cons (.tup (.cons (.var 4) (.cons (.bin .Add (.var 3) (.con (.int 1))) .nil))) .nil))) .nil))) (.cons (.set 0 3 (.bin .Add (.var 3) (.con (.int 1)))) .nil)) (.cons (.app 2 (.var 3)) .nil)))) (.cons (.ret (.blt .tuple (.cons (.var 2) .nil))) .nil)))))⟩
def s_reach_table : Sem := run f_reach_table
/-- greedy_cuts; top 18; calls ['reach_table'] -/
def n_greedy_cuts : List Str := ["case", "reach", "told", "at"]
def f_greedy_cuts : Fn := ⟨1, 4, (.cons (.set 0 1 (.call "reach_table" s_reach_table (.cons (.var 0) .nil))) (.cons (.set 1 2 (.lst .nil)) (.cons (.set 0 3 (.con (.int 0))) (.cons (.whl (.and (.cons (.cmp .Lt (.var 3) (.blt .len (.cons (.var 1) .nil))) (.cons (.cmp .Lt (.sub (.var 1) (.var 3)) (.blt .len (.cons (.var 1) .nil))) .nil))) (.cons (.set 0 3 (.sub (.var 1) (.var 3))) (.cons (.app 2 (.var 3)) .nil))) (.cons (.ret (.blt .tuple (.cons (.var 2) .nil))) .nil)))))⟩
def s_greedy_cuts : Sem := run f_greedy_cuts
/-- fewest_count; top 19; calls ['greedy_cuts'] -/
def n_fewest_count : List Str := ["case"]
def f_fewest_count : Fn := ⟨1, 1, (.cons (.ret (.blt .len (.cons (.call "greedy_cuts" s_greedy_cuts (.cons (.var 0) .nil)) .nil))) .nil)⟩
def s_fewest_count : Sem := run f_fewest_count
/-- piece_count; top 20; calls ['fewest_count'] -/
def n_piece_count : List Str := ["case"]
def f_piece_count : Fn := ⟨1, 1, (.cons (.ret (.ite (.cmp .Eq (.sub (.var 0) (.con (.int 2))) (.con (.str ""))) (.con (.int 0)) (.bin .Add (.call "fewest_count" s_fewest_count (.cons (.var 0) .nil)) (.con (.int 1))))) .nil)⟩
def s_piece_count : Sem := run f_piece_count
/-- _with; top 22; calls [] -/
def n__with : List Str := ["case", "number", "rule", "elders", "rules", "new"]
def f__with : Fn := ⟨3, 6, (.cons (.unp (.cons (.nm 3) (.cons (.nm 4) (.cons (.nm 5) .nil))) (.var 0)) (.cons (.ret (.tup (.cons (.var 3) (.cons (.bin .Add (.bin .Add (.slc (.var 4) .no (.so (.var 1))) (.tup (.cons (.var 2) .nil))) (.slc (.var 4) (.so (.bin .Add (.var 1) (.con (.int 1)))) .no)) (.cons (.var 5) .nil))))) .nil))⟩
def s__with : Sem := run f__with
/-- _check_rule; top 23; calls [] -/
def n__check_rule : List Str := ["case", "number"]
def f__check_rule : Fn := ⟨2, 2, (.cons (.ife (.or (.cons (.isi (.var 1) [.bool] true) (.cons (.nt (.isi (.var 1) [.int] true)) (.cons (.nt (.cmp2 .LtE .Lt (.con (.int 0)) (.var 1) (.blt .len (.cons (.sub (.var 0) (.con (.int 1))) .nil)))) .nil)))) (.cons (.rse "NoSuch" ["name", "word"] (.cons (.con (.str "rule")) (.cons (.var 1) .nil))) .nil) .nil) .nil)⟩
def s__check_rule : Sem := run f__check_rule
/-- pieces_by_most; top 24; calls ['piece_count', '_with', '_check_rule'] -/
def n_pieces_by_most : List Str := ["case", "number", "mosts", "rule", "most"]
def f_pieces_by_most : Fn := ⟨3, 5, (.cons (.exp (.call "_check_rule" s__check_rule (.cons (.var 0) (.cons (.var 1) .nil)))) (.cons (.set 0 3 (.sub (.sub (.var 0) (.con (.int 1))) (.var 1))) (.cons (.ret (.blt .tuple (.cons (.comp (.nm 4) (.of (.var 2)) .no (.call "piece_count" s_piece_count (.cons (.call "_with" s__with (.cons (.var 0) (.cons (.var 1) (.cons (.bin .Add (.slc (.var 3) .no (.so (.neg (.con (.int 1))))) (.tup (.cons (.var 4) .nil))) .nil)))) .nil)) [("most", 4)]) .nil))) .nil)))⟩
def s_pieces_by_most : Sem := run f_pieces_by_most
/-- pieces_by_wide; top 25; calls ['piece_count', '_with', '_check_rule'] -/
def n_pieces_by_wide : List Str := ["case", "number", "wides", "rule", "wide"]
def f_pieces_by_wide : Fn := ⟨3, 5, (.cons (.exp (.call "_check_rule" s__check_rule (.cons (.var 0) (.cons (.var 1) .nil)))) (.cons (.set 0 3 (.sub (.sub (.var 0) (.con (.int 1))) (.var 1))) (.cons (.ife (.cmp .NotEq (.sub (.var 3) (.con (.int 0))) (.con (.str "back"))) (.cons (.rse "NoSuch" ["name", "word"] (.cons (.con (.str "wide")) (.cons (.var 1) .nil))) .nil) .nil) (.cons (.ret (.blt .tuple (.cons (.comp (.nm 4) (.of (.var 2)) .no (.call "piece_count" s_piece_count (.cons (.call "_with" s__with (.cons (.var 0) (.cons (.var 1) (.cons (.bin .Add (.bin .Add (.slc (.var 3) .no (.so (.con (.int 1)))) (.tup (.cons (.var 4) .nil))) (.slc (.var 3) (.so (.con (.int 2))) .no)) .nil)))) .nil)) [("wide", 4)]) .nil))) .nil))))⟩
def s_pieces_by_wide : Sem := run f_pieces_by_wide
/-- least_most; top 26; calls ['piece_count', '_with', '_check_rule'] -/
def n_least_most : List Str := ["case", "number", "rule", "goal", "low", "high", "middle"]
def f_least_most : Fn := ⟨2, 7, (.cons (.exp (.call "_check_rule" s__check_rule (.cons (.var 0) (.cons (.var 1) .nil)))) (.cons (.set 0 2 (.sub (.sub (.var 0) (.con (.int 1))) (.var 1))) (.cons (.set 0 3 (.call "piece_count" s_piece_count (.cons (.var 0) .nil))) (.cons (.set 0 4 (.con (.int 2))) (.cons (.set 0 5 (.sub (.var 2) (.neg (.con (.int 1))))) (.cons (.whl (.cmp .Lt (.var 4) (.var 5)) (.cons (.set 0 6 (.bin .FloorDiv (.bin .Add (.var 4) (.var 5)) (.con (.int 2)))) (.cons (.ife (.cmp .LtE (.call "piece_count" s_piece_count (.cons (.call "_with" s__with (.cons (.var 0) (.cons (.var 1) (.cons (.bin .Add (.slc (.var 2) .no (.so (.neg (.con (.int 1))))) (.tup (.cons (.var 6) .nil))) .nil)))) .nil)) (.var 3)) (.cons (.set 0 5 (.var 6)) .nil) (.cons (.set 0 4 (.bin .Add (.var 6) (.con (.int 1)))) .nil)) .nil))) (.cons (.ret (.var 4)) .nil)))))))⟩
def s_least_most : Sem := run f_least_most
/-- least_wide; top 27; calls ['piece_count', '_with', '_check_rule'] -/
def n_least_wide : List Str := ["case", "number", "rule", "goal", "low", "high", "middle"]
def f_least_wide : Fn := ⟨2, 7, (.cons (.exp (.call "_check_rule" s__check_rule (.cons (.var 0) (.cons (.var 1) .nil)))) (.cons (.set 0 2 (.sub (.sub (.var 0) (.con (.int 1))) (.var 1))) (.cons (.ife (.cmp .NotEq (.sub (.var 2) (.con (.int 0))) (.con (.str "back"))) (.cons (.rse "NoSuch" ["name", "word"] (.cons (.con (.str "wide")) (.cons (.var 1) .nil))) .nil) .nil) (.cons (.set 0 3 (.call "piece_count" s_piece_count (.cons (.var 0) .nil))) (.cons (.set 0 4 (.con (.int 1))) (.cons (.set 0 5 (.sub (.var 2) (.con (.int 1)))) (.cons (.whl (.cmp .Lt (.var 4) (.var 5)) (.cons (.set 0 6 (.bin .FloorDiv (.bin .Add (.var 4) (.var 5)) (.con (.int 2)))) (.cons (.ife (.cmp .LtE (.call "piece_count" s_piece_count (.cons (.call "_with" s__with (.cons (.var 0) (.cons (.var 1) (.cons (.bin .Add (.bin .Add (.slc (.var 2) .no (.so (.con (.int 1)))) (.tup (.cons (.var 6) .nil))) (.slc (.var 2) (.so (.con (.int 2))) .no)) .nil)))) .nil)) (.var 3)) (.cons (.set 0 5 (.var 6)) .nil) (.cons (.set 0 4 (.bin .Add (.var 6) (.con (.int 1)))) .nil)) .nil))) (.cons (.ret (.var 4)) .nil))))))))⟩
def s_least_wide : Sem := run f_least_wide
/-- widest_case; top 28; calls [] -/
def n_widest_case : List Str := ["case", "elders", "rules", "new", "told", "rule"]
def f_widest_case : Fn := ⟨1, 6, (.cons (.unp (.cons (.nm 1) (.cons (.nm 2) (.cons (.nm 3) .nil))) (.var 0)) (.cons (.set 1 4 (.lst .nil)) (.cons (.for_ (.nm 5) (.of (.var 2)) (.cons (.ife (.cmp .Eq (.sub (.var 5) (.con (.int 0))) (.con (.str "elder"))) (.cons (.app 4 (.bin .Add (.slc (.var 5) .no (.so (.neg (.con (.int 1))))) (.tup (.cons (.glo "MOST_WIDE" (.int 300)) .nil)))) .nil) (.cons (.app 4 (.bin .Add (.bin .Add (.tup (.cons (.con (.str "back")) (.cons (.glo "MOST_WIDE" (.int 300)) .nil))) (.slc (.var 5) (.so (.con (.int 2))) (.so (.neg (.con (.int 1)))))) (.tup (.cons (.glo "MOST_WIDE" (.int 300)) .nil)))) .nil)) .nil)) (.cons (.ret (.tup (.cons (.var 1) (.cons (.blt .tuple (.cons (.var 4) .nil)) (.cons (.var 3) .nil))))) .nil))))⟩
def s_widest_case : Sem := run f_widest_case
/-- lost_by_bounds; top 29; calls ['piece_count', 'widest_case'] -/
def n_lost_by_bounds : List Str := ["case"]
def f_lost_by_bounds : Fn := ⟨1, 1, (.cons (.ret (.bin .Sub (.call "piece_count" s_piece_count (.cons (.var 0) .nil)) (.call "piece_count" s_piece_count (.cons (.call "widest_case" s_widest_case (.cons (.var 0) .nil)) .nil)))) .nil)⟩
def s_lost_by_bounds : Sem := run f_lost_by_bounds
-- _law_well: by hand; top 31; names ['script', 'cells', 'cell', 'stir']
-- _law_pick: by hand; top 32; names ['well', 'many', 'turn', 'cells', 'place', 'cell', 'one', 'two']
/-- _law_alike; top 33; calls ['_law_alike'] -/
def n__law_alike : List Str := ["told", "due", "k"]
def f__law_alike (s__law_alike : Sem) : Fn := ⟨2, 3, (.cons (.ife (.cmp .Is (.var 1) (.con .none)) (.cons (.ret (.cmp .Is (.var 0) (.con .none))) .nil) .nil) (.cons (.ife (.isi (.var 1) [.bool] true) (.cons (.ret (.and (.cons (.isi (.var 0) [.bool] true) (.cons (.cmp .Eq (.var 0) (.var 1)) .nil)))) .nil) .nil) (.cons (.ife (.isi (.var 1) [.int] true) (.cons (.ret (.and (.cons (.isi (.var 0) [.int] true) (.cons (.nt (.isi (.var 0) [.bool] true)) (.cons (.cmp .Eq (.var 0) (.var 1)) .nil))))) .nil) .nil) (.cons (.ife (.isi (.var 1) [.str] true) (.cons (.ret (.and (.cons (.isi (.var 0) [.str] true) (.cons (.cmp .Eq (.var 0) (.var 1)) .nil)))) .nil) .nil) (.cons (.ife (.and (.cons (.isi (.var 1) [.tuple] true) (.cons (.nt (.isi (.var 0) [.tuple] true)) .nil))) (.cons (.ret (.con (.bool false))) .nil) .nil) (.cons (.ife (.and (.cons (.isi (.var 1) [.list] true) (.cons (.nt (.isi (.var 0) [.list] true)) .nil))) (.cons (.ret (.con (.bool false))) .nil) .nil) (.cons (.ife (.or (.cons (.nt (.isi (.var 1) [.tuple, .list] false)) (.cons (.cmp .NotEq (.blt .len (.cons (.var 0) .nil)) (.blt .len (.cons (.var 1) .nil))) .nil))) (.cons (.ret (.con (.bool false))) .nil) .nil) (.cons (.for_ (.nm 2) (.rng (.cons (.blt .len (.cons (.var 1) .nil)) .nil)) (.cons (.ife (.nt (.call "_law_alike" s__law_alike (.cons (.sub (.var 0) (.var 2)) (.cons (.sub (.var 1) (.var 2)) .nil)))) (.cons (.ret (.con (.bool false))) .nil) .nil) .nil)) (.cons (.ret (.con (.bool true))) .nil)))))))))⟩
def s__law_alike : Nat → Sem
  | 0 => fun _ => M.stk
  | n + 1 => run (f__law_alike (s__law_alike n))
/-- _law_signs; top 34; calls ['_law_pick'] -/
def n__law_signs : List Str := ["well", "signs", "kind", "k"]
def f__law_signs : Fn := ⟨1, 4, (.cons (.set 0 1 (.con (.str " !\"#$&'()*+,-./0123456789:;<=>?@ABCDEFGHIJKLMNOPQRSTUVWXYZ[\\]^_`abcdefghijklmnopqrstuvwxyz{|}~"))) (.cons (.set 0 2 (.call "_law_pick" s__law_pick (.cons (.var 0) (.cons (.con (.int 4)) .nil)))) (.cons (.ife (.cmp .Eq (.var 2) (.con (.int 0))) (.cons (.ret (.met .join (.con (.str "")) (.cons (.comp (.nm 3) (.rng (.cons (.con (.int 3)) .nil)) .no (.sub (.var 1) (.call "_law_pick" s__law_pick (.cons (.var 0) (.cons (.con (.int 94)) .nil)))) [("k", 3)]) .nil))) .nil) .nil) (.cons (.ret (.sub (.lst (.cons (.con (.str "ab")) (.cons (.con (.str "abc")) (.cons (.con (.str "abcd")) .nil)))) (.bin .Sub (.var 2) (.con (.int 1))))) .nil))))⟩
def s__law_signs : Sem := run f__law_signs
/-- _law_text; top 35; calls ['_law_pick'] -/
def n__law_text : List Str := ["well", "signs", "size", "text", "lap", "first", "part", "k"]
def f__law_text : Fn := ⟨3, 8, (.cons (.set 0 3 (.con (.str ""))) (.cons (.for_ (.nm 4) (.rng (.cons (.var 2) .nil)) (.cons (.ife (.cmp .GtE (.blt .len (.cons (.var 3) .nil)) (.var 2)) (.cons (.brk) .nil) .nil) (.cons (.ife (.or (.cons (.cmp .Eq (.blt .len (.cons (.var 3) .nil)) (.con (.int 0))) (.cons (.cmp .Gt (.call "_law_pick" s__law_pick (.cons (.var 0) (.cons (.con (.int 3)) .nil))) (.con (.int 0))) .nil))) (.cons (.set 0 3 (.bin .Add (.var 3) (.sub (.var 1) (.call "_law_pick" s__law_pick (.cons (.var 0) (.cons (.blt .len (.cons (.var 1) .nil)) .nil)))))) .nil) (.cons (.set 0 5 (.call "_law_pick" s__law_pick (.cons (.var 0) (.cons (.blt .len (.cons (.var 3) .nil)) .nil)))) (.cons (.set 0 6 (.slc (.var 3) (.so (.var 5)) (.so (.bin .Add (.bin .Add (.var 5) (.con (.int 1))) (.call "_law_pick" s__law_pick (.cons (.var 0) (.cons (.con (.int 4)) .nil))))))) (.cons (.ife (.cmp .Eq (.call "_law_pick" s__law_pick (.cons (.var 0) (.cons (.con (.int 4)) .nil))) (.con (.int 0))) (.cons (.set 0 6 (.met .join (.con (.str "")) (.cons (.comp (.nm 7) (.rng (.cons (.blt .len (.cons (.var 6) .nil)) .nil)) .no (.sub (.var 6) (.bin .Sub (.bin .Sub (.blt .len (.cons (.var 6) .nil)) (.con (.int 1))) (.var 7))) [("k", 7)]) .nil))) .nil) .nil) (.cons (.set 0 3 (.slc (.bin .Add (.var 3) (.var 6)) .no (.so (.var 2)))) .nil))))) .nil))) (.cons (.ret (.var 3)) .nil)))⟩
def s__law_text : Sem := run f__law_text
/-- _law_plain_run; top 36; calls [] -/
def n__law_plain_run : List Str := ["text", "new", "first", "at", "back", "wide", "apart", "told", "x", "place"]
def f__law_plain_run : Fn := ⟨7, 10, (.cons (.set 0 7 (.con (.int 0))) (.cons (.for_ (.nm 8) (.rng (.cons (.bin .Sub (.blt .len (.cons (.var 1) .nil)) (.var 2)) .nil)) (.cons (.set 0 9 (.bin .Add (.var 3) (.var 8))) (.cons (.ife (.or (.cons (.cmp .GtE (.var 9) (.blt .len (.cons (.var 0) .nil))) (.cons (.cmp .NotEq (.sub (.var 0) (.var 9)) (.sub (.var 1) (.bin .Add (.var 2) (.var 8)))) .nil))) (.cons (.brk) .nil) .nil) (.cons (.ife (.and (.cons (.var 4) (.cons (.or (.cons (.cmp .GtE (.var 9) (.bin .Add (.var 2) (.var 8))) (.cons (.cmp .Lt (.var 9) (.bin .Sub (.bin .Add (.var 2) (.var 8)) (.var 5))) (.cons (.and (.cons (.var 6) (.cons (.cmp .GtE (.var 9) (.var 2)) .nil))) .nil)))) .nil))) (.cons (.brk) .nil) .nil) (.cons (.set 0 7 (.bin .Add (.var 8) (.con (.int 1)))) .nil))))) (.cons (.ret (.var 7)) .nil)))⟩
def s__law_plain_run : Sem := run f__law_plain_run
/-- _law_turned_run; top 37; calls [] -/
def n__law_turned_run : List Str := ["text", "new", "first", "at", "back", "wide", "told", "x", "place"]
def f__law_turned_run : Fn := ⟨6, 9, (.cons (.set 0 6 (.con (.int 0))) (.cons (.for_ (.nm 7) (.rng (.cons (.bin .Sub (.blt .len (.cons (.var 1) .nil)) (.var 2)) .nil)) (.cons (.set 0 8 (.bin .Sub (.var 3) (.var 7))) (.cons (.ife (.or (.cons (.cmp .Lt (.var 8) (.con (.int 0))) (.cons (.cmp .NotEq (.sub (.var 0) (.var 8)) (.sub (.var 1) (.bin .Add (.var 2) (.var 7)))) .nil))) (.cons (.brk) .nil) .nil) (.cons (.ife (.and (.cons (.var 4) (.cons (.or (.cons (.cmp .GtE (.var 8) (.bin .Add (.var 2) (.var 7))) (.cons (.cmp .Lt (.var 8) (.bin .Sub (.bin .Add (.var 2) (.var 7)) (.var 5))) .nil))) .nil))) (.cons (.brk) .nil) .nil) (.cons (.set 0 6 (.bin .Add (.var 7) (.con (.int 1)))) .nil))))) (.cons (.ret (.var 6)) .nil)))⟩
def s__law_turned_run : Sem := run f__law_turned_run
/-- _law_runs; top 38; calls ['_law_turned_run', '_law_plain_run'] -/
def n__law_runs : List Str := ["case", "rule", "new", "back", "text", "wide", "apart", "turned", "told", "first", "longest", "at"]
def f__law_runs : Fn := ⟨2, 12, (.cons (.set 0 2 (.sub (.var 0) (.con (.int 2)))) (.cons (.set 0 3 (.cmp .Eq (.sub (.var 1) (.con (.int 0))) (.con (.str "back")))) (.cons (.set 0 4 (.var 2)) (.cons (.set 0 5 (.con (.int 0))) (.cons (.set 0 6 (.con (.bool false))) (.cons (.set 0 7 (.sub (.var 1) (.con (.int 2)))) (.cons (.ife (.var 3) (.cons (.set 0 5 (.sub (.var 1) (.con (.int 1)))) (.cons (.set 0 6 (.sub (.var 1) (.con (.int 2)))) (.cons (.set 0 7 (.sub (.var 1) (.con (.int 3)))) .nil))) (.cons (.set 0 4 (.sub (.sub (.var 0) (.con (.int 0))) (.sub (.var 1) (.con (.int 1))))) .nil)) (.cons (.set 1 8 (.lst .nil)) (.cons (.for_ (.nm 9) (.rng (.cons (.blt .len (.cons (.var 2) .nil)) .nil)) (.cons (.set 0 10 (.con (.int 0))) (.cons (.for_ (.nm 11) (.rng (.cons (.blt .len (.cons (.var 4) .nil)) .nil)) (.cons (.ife (.and (.cons (.var 7) (.cons (.nt (.and (.cons (.var 3) (.cons (.cmp .GtE (.var 11) (.var 9)) .nil)))) .nil))) (.cons (.set 0 10 (.blt .max (.cons (.var 10) (.cons (.call "_law_turned_run" s__law_turned_run (.cons (.var 4) (.cons (.var 2) (.cons (.var 9) (.cons (.var 11) (.cons (.var 3) (.cons (.var 5) .nil))))))) .nil)))) .nil) (.cons (.ife (.nt (.var 7)) (.cons (.set 0 10 (.blt .max (.cons (.var 10) (.cons (.call "_law_plain_run" s__law_plain_run (.cons (.var 4) (.cons (.var 2) (.cons (.var 9) (.cons (.var 11) (.cons (.var 3) (.cons (.var 5) (.cons (.var 6) .nil)))))))) .nil)))) .nil) .nil) .nil)) .nil)) (.cons (.app 8 (.var 10)) .nil)))) (.cons (.ret (.var 8)) .nil))))))))))⟩
def s__law_runs : Sem := run f__law_runs
/-- _law_reach; top 39; calls [] -/
def n__law_reach : List Str := ["size", "runs", "mosts", "told", "first", "longest", "k"]
def f__law_reach : Fn := ⟨3, 7, (.cons (.set 1 3 (.lst .nil)) (.cons (.for_ (.nm 4) (.rng (.cons (.var 0) .nil)) (.cons (.set 0 5 (.con (.int 1))) (.cons (.for_ (.nm 6) (.rng (.cons (.blt .len (.cons (.var 2) .nil)) .nil)) (.cons (.set 0 5 (.blt .max (.cons (.var 5) (.cons (.blt .min (.cons (.sub (.sub (.var 1) (.var 6)) (.var 4)) (.cons (.sub (.var 2) (.var 6)) .nil))) .nil)))) .nil)) (.cons (.app 3 (.bin .Add (.var 4) (.var 5))) .nil)))) (.cons (.ret (.var 3)) .nil)))⟩
def s__law_reach : Sem := run f__law_reach
/-- _law_cuts; top 40; calls [] -/
def n__law_cuts : List Str := ["reach", "told", "here", "lap"]
def f__law_cuts : Fn := ⟨1, 4, (.cons (.set 1 1 (.lst .nil)) (.cons (.set 0 2 (.con (.int 0))) (.cons (.for_ (.nm 3) (.rng (.cons (.blt .len (.cons (.var 0) .nil)) .nil)) (.cons (.ife (.cmp .GtE (.var 2) (.blt .len (.cons (.var 0) .nil))) (.cons (.brk) .nil) .nil) (.cons (.set 0 2 (.sub (.var 0) (.var 2))) (.cons (.app 1 (.var 2)) .nil)))) (.cons (.ret (.slc (.var 1) .no (.so (.bin .Sub (.blt .len (.cons (.var 1) .nil)) (.con (.int 1)))))) .nil))))⟩
def s__law_cuts : Sem := run f__law_cuts
/-- _law_pieces; top 41; calls ['_law_cuts', '_law_reach'] -/
def n__law_pieces : List Str := ["size", "runs", "mosts"]
def f__law_pieces : Fn := ⟨3, 3, (.cons (.ife (.cmp .Eq (.var 0) (.con (.int 0))) (.cons (.ret (.con (.int 0))) .nil) .nil) (.cons (.ret (.bin .Add (.blt .len (.cons (.call "_law_cuts" s__law_cuts (.cons (.call "_law_reach" s__law_reach (.cons (.var 0) (.cons (.var 1) (.cons (.var 2) .nil)))) .nil)) .nil)) (.con (.int 1)))) .nil))⟩
def s__law_pieces : Sem := run f__law_pieces
/-- _law_part; top 42; calls ['_law_text', '_law_pick'] -/
def n__law_part : List Str := ["well", "new", "signs", "size", "first", "part", "k"]
def f__law_part : Fn := ⟨3, 7, (.cons (.set 0 3 (.call "_law_pick" s__law_pick (.cons (.var 0) (.cons (.con (.int 9)) .nil)))) (.cons (.ife (.or (.cons (.cmp .Eq (.blt .len (.cons (.var 1) .nil)) (.con (.int 0))) (.cons (.cmp .Eq (.call "_law_pick" s__law_pick (.cons (.var 0) (.cons (.con (.int 4)) .nil))) (.con (.int 0))) .nil))) (.cons (.ret (.call "_law_text" s__law_text (.cons (.var 0) (.cons (.var 2) (.cons (.var 3) .nil))))) .nil) .nil) (.cons (.set 0 4 (.call "_law_pick" s__law_pick (.cons (.var 0) (.cons (.blt .len (.cons (.var 1) .nil)) .nil)))) (.cons (.set 0 5 (.slc (.var 1) (.so (.var 4)) (.so (.bin .Add (.var 4) (.var 3))))) (.cons (.ife (.cmp .Eq (.call "_law_pick" s__law_pick (.cons (.var 0) (.cons (.con (.int 3)) .nil))) (.con (.int 0))) (.cons (.set 0 5 (.met .join (.con (.str "")) (.cons (.comp (.nm 6) (.rng (.cons (.blt .len (.cons (.var 5) .nil)) .nil)) .no (.sub (.var 5) (.bin .Sub (.bin .Sub (.blt .len (.cons (.var 5) .nil)) (.con (.int 1))) (.var 6))) [("k", 6)]) .nil))) .nil) .nil) (.cons (.ret (.bin .Add (.var 5) (.call "_law_text" s__law_text (.cons (.var 0) (.cons (.var 2) (.cons (.call "_law_pick" s__law_pick (.cons (.var 0) (.cons (.con (.int 3)) .nil))) .nil)))))) .nil))))))⟩
def s__law_part : Sem := run f__law_part
/-- _law_rule; top 43; calls ['_law_pick'] -/
def n__law_rule : List Str := ["well", "elders", "most", "turned", "wide"]
def f__law_rule : Fn := ⟨2, 5, (.cons (.set 0 2 (.sub (.lst (.cons (.con (.int 2)) (.cons (.con (.int 3)) (.cons (.con (.int 4)) (.cons (.con (.int 5)) (.cons (.con (.int 7)) (.cons (.con (.int 300)) .nil))))))) (.call "_law_pick" s__law_pick (.cons (.var 0) (.cons (.con (.int 6)) .nil))))) (.cons (.set 0 3 (.cmp .Eq (.call "_law_pick" s__law_pick (.cons (.var 0) (.cons (.con (.int 3)) .nil))) (.con (.int 0)))) (.cons (.ife (.and (.cons (.cmp .Gt (.var 1) (.con (.int 0))) (.cons (.cmp .Eq (.call "_law_pick" s__law_pick (.cons (.var 0) (.cons (.con (.int 2)) .nil))) (.con (.int 0))) .nil))) (.cons (.ret (.tup (.cons (.con (.str "elder")) (.cons (.call "_law_pick" s__law_pick (.cons (.var 0) (.cons (.var 1) .nil))) (.cons (.var 3) (.cons (.var 2) .nil)))))) .nil) .nil) (.cons (.set 0 4 (.sub (.lst (.cons (.con (.int 1)) (.cons (.con (.int 2)) (.cons (.con (.int 3)) (.cons (.con (.int 4)) (.cons (.con (.int 6)) (.cons (.con (.int 9)) (.cons (.con (.int 300)) .nil)))))))) (.call "_law_pick" s__law_pick (.cons (.var 0) (.cons (.con (.int 7)) .nil))))) (.cons (.ret (.tup (.cons (.con (.str "back")) (.cons (.var 4) (.cons (.cmp .Eq (.call "_law_pick" s__law_pick (.cons (.var 0) (.cons (.con (.int 2)) .nil))) (.con (.int 0))) (.cons (.var 3) (.cons (.var 2) .nil))))))) .nil)))))⟩
def s__law_rule : Sem := run f__law_rule
/-- _law_case; top 44; calls ['_law_rule', '_law_pick', '_law_part', '_law_text', '_law_signs'] -/
def n__law_case : List Str := ["well", "signs", "size", "rules", "new", "elders", "k"]
def f__law_case : Fn := ⟨1, 7, (.cons (.set 0 1 (.call "_law_signs" s__law_signs (.cons (.var 0) .nil))) (.cons (.set 0 2 (.sub (.lst (.cons (.con (.int 0)) (.cons (.con (.int 1)) (.cons (.con (.int 4)) (.cons (.con (.int 6)) (.cons (.con (.int 7)) (.cons (.con (.int 8)) (.cons (.con (.int 8)) (.cons (.con (.int 9)) (.cons (.con (.int 9)) (.cons (.con (.int 10)) (.cons (.con (.int 10)) .nil)))))))))))) (.call "_law_pick" s__law_pick (.cons (.var 0) (.cons (.con (.int 11)) .nil))))) (.cons (.set 0 3 (.bin .Add (.con (.int 1)) (.call "_law_pick" s__law_pick (.cons (.var 0) (.cons (.con (.int 4)) .nil))))) (.cons (.ife (.cmp .Eq (.call "_law_pick" s__law_pick (.cons (.var 0) (.cons (.con (.int 13)) .nil))) (.con (.int 3))) (.cons (.set 0 2 (.con (.int 18))) .nil) .nil) (.cons (.ife (.cmp .Eq (.call "_law_pick" s__law_pick (.cons (.var 0) (.cons (.con (.int 11)) .nil))) (.con (.int 2))) (.cons (.set 0 3 (.con (.int 8))) .nil) .nil) (.cons (.set 0 4 (.call "_law_text" s__law_text (.cons (.var 0) (.cons (.var 1) (.cons (.var 2) .nil))))) (.cons (.set 0 5 (.blt .tuple (.cons (.comp (.nm 6) (.rng (.cons (.call "_law_pick" s__law_pick (.cons (.var 0) (.cons (.con (.int 4)) .nil))) .nil)) .no (.call "_law_part" s__law_part (.cons (.var 0) (.cons (.var 4) (.cons (.var 1) .nil)))) [("k", 6)]) .nil))) (.cons (.ret (.tup (.cons (.var 5) (.cons (.blt .tuple (.cons (.comp (.nm 6) (.rng (.cons (.var 3) .nil)) .no (.call "_law_rule" s__law_rule (.cons (.var 0) (.cons (.blt .len (.cons (.var 5) .nil)) .nil))) [("k", 6)]) .nil)) (.cons (.var 4) .nil))))) .nil))))))))⟩
def s__law_case : Sem := run f__law_case
/-- _law_with; top 45; calls [] -/
def n__law_with : List Str := ["rows", "number", "row", "k"]
def f__law_with : Fn := ⟨3, 4, (.cons (.ret (.comp (.nm 3) (.rng (.cons (.blt .len (.cons (.var 0) .nil)) .nil)) .no (.sub (.lst (.cons (.sub (.var 0) (.var 3)) (.cons (.var 2) .nil))) (.blt .int (.cons (.cmp .Eq (.var 3) (.var 1)) .nil))) [("k", 3)])) .nil)⟩
def s__law_with : Sem := run f__law_with
/-- _law_refused; top 46; calls ['pieces_by_most', 'pieces_by_wide', 'least_most', 'least_wide'] -/
def n__law_refused : List Str := ["word", "case", "number", "told", "e"]
def f__law_refused : Fn := ⟨3, 5, (.cons (.set 0 3 (.tup (.cons (.con (.str "told")) (.cons (.con (.int 0)) .nil)))) (.cons (.tr (.cons (.ife (.cmp .Eq (.var 0) (.con (.str "most"))) (.cons (.set 0 3 (.tup (.cons (.con (.str "told")) (.cons (.call "pieces_by_most" s_pieces_by_most (.cons (.var 1) (.cons (.var 2) (.cons (.tup (.cons (.con (.int 2)) .nil)) .nil)))) .nil)))) .nil) (.cons (.ife (.cmp .Eq (.var 0) (.con (.str "wide"))) (.cons (.set 0 3 (.tup (.cons (.con (.str "told")) (.cons (.call "pieces_by_wide" s_pieces_by_wide (.cons (.var 1) (.cons (.var 2) (.cons (.tup (.cons (.con (.int 1)) .nil)) .nil)))) .nil)))) .nil) (.cons (.ife (.cmp .Eq (.var 0) (.con (.str "least most"))) (.cons (.set 0 3 (.tup (.cons (.con (.str "told")) (.cons (.call "least_most" s_least_most (.cons (.var 1) (.cons (.var 2) .nil))) .nil)))) .nil) (.cons (.set 0 3 (.tup (.cons (.con (.str "told")) (.cons (.call "least_wide" s_least_wide (.cons (.var 1) (.cons (.var 2) .nil))) .nil)))) .nil)) .nil)) .nil)) .nil) "SaidError" (some 4) (.ife (.or (.cons (.nt (.isi ["NoSuch"] true)) (.cons (.nt (.isi ["AskError"] true)) (.cons (.isi ["DataError", "CallError", "TextError"] false) .nil)))) (.tup (.cons (.con (.str "other")) (.cons (.con (.str "")) (.cons (.con (.int 0)) .nil)))) (.ret (.tup (.cons (.con (.str "refused")) (.cons (.at "word") (.cons (.at "name") .nil)))))) tab) (.cons (.ret (.var 3)) .nil)))⟩
def s__law_refused : Sem := run f__law_refused
/-- _law_rule_asked; top 47; calls ['_law_alike', 'least_wide', '_law_pieces', '_law_with', '_law_runs', 'pieces_by_wide', '_law_refused', 'least_most', 'pieces_by_most'] -/
def n__law_rule_asked : List Str := ["case", "runs", "mosts", "number", "size", "rule", "own", "tries", "due", "most", "least", "lots", "wide", "lot"]
def f__law_rule_asked : Fn := ⟨4, 14, (.cons (.set 0 4 (.blt .len (.cons (.sub (.var 0) (.con (.int 2))) .nil))) (.cons (.set 0 5 (.sub (.sub (.var 0) (.con (.int 1))) (.var 3))) (.cons (.set 0 6 (.call "_law_pieces" s__law_pieces (.cons (.var 4) (.cons (.var 1) (.cons (.var 2) .nil))))) (.cons (.set 0 7 (.tup (.cons (.con (.int 2)) (.cons (.con (.int 3)) (.cons (.sub (.var 2) (.var 3)) (.cons (.con (.int 300)) (.cons (.con (.int 4)) .nil))))))) (.cons (.set 0 8 (.blt .tuple (.cons (.comp (.nm 9) (.of (.var 7)) .no (.call "_law_pieces" s__law_pieces (.cons (.var 4) (.cons (.var 1) (.cons (.call "_law_with" s__law_with (.cons (.var 2) (.cons (.var 3) (.cons (.var 9) .nil)))) .nil)))) [("most", 9)]) .nil))) (.cons (.ife (.nt (.call "_law_alike" (s__law_alike 6) (.cons (.call "pieces_by_most" s_pieces_by_most (.cons (.var 0) (.cons (.var 3) (.cons (.var 7) .nil)))) (.cons (.var 8) .nil)))) (.cons (.ret (.con (.bool false))) .nil) .nil) (.cons (.set 0 10 (.con (.int 2))) (.cons (.for_ (.nm 9) (.rng (.cons (.con (.int 2)) (.cons (.bin .Add (.blt .min (.cons (.sub (.var 5) (.bin .Sub (.blt .len (.cons (.var 5) .nil)) (.con (.int 1)))) (.cons (.bin .Add (.var 4) (.con (.int 2))) .nil))) (.con (.int 1))) .nil))) (.cons (.set 0 10 (.var 9)) (.cons (.ife (.cmp .Eq (.call "_law_pieces" s__law_pieces (.cons (.var 4) (.cons (.var 1) (.cons (.call "_law_with" s__law_with (.cons (.var 2) (.cons (.var 3) (.cons (.var 9) .nil)))) .nil)))) (.var 6)) (.cons (.brk) .nil) .nil) .nil))) (.cons (.ife (.nt (.call "_law_alike" (s__law_alike 6) (.cons (.call "least_most" s_least_most (.cons (.var 0) (.cons (.var 3) .nil))) (.cons (.var 10) .nil)))) (.cons (.ret (.con (.bool false))) .nil) .nil) (.cons (.ife (.cmp .Eq (.sub (.var 5) (.con (.int 0))) (.con (.str "elder"))) (.cons (.ife (.nt (.call "_law_alike" (s__law_alike 6) (.cons (.call "_law_refused" s__law_refused (.cons (.con (.str "wide")) (.cons (.var 0) (.cons (.var 3) .nil)))) (.cons (.tup (.cons (.con (.str "refused")) (.cons (.con (.str "wide")) (.cons (.var 3) .nil)))) .nil)))) (.cons (.ret (.con (.bool false))) .nil) .nil) (.cons (.ret (.call "_law_alike" (s__law_alike 6) (.cons (.call "_law_refused" s__law_refused (.cons (.con (.str "least wide")) (.cons (.var 0) (.cons (.var 3) .nil)))) (.cons (.tup (.cons (.con (.str "refused")) (.cons (.con (.str "wide")) (.cons (.var 3) .nil)))) .nil)))) .nil)) .nil) (.cons (.set 0 7 (.tup (.cons (.con (.int 1)) (.cons (.sub (.var 5) (.con (.int 1))) (.cons (.con (.int 2)) (.cons (.con (.int 300)) .nil)))))) (.cons (.set 0 11 (.comp (.nm 12) (.of (.var 7)) .no (.call "_law_with" s__law_with (.cons (.var 1) (.cons (.var 3) (.cons (.call "_law_runs" s__law_runs (.cons (.var 0) (.cons (.bin .Add (.bin .Add (.slc (.var 5) .no (.so (.con (.int 1)))) (.tup (.cons (.var 12) .nil))) (.slc (.var 5) (.so (.con (.int 2))) .no)) .nil))) .nil)))) [("wide", 12)])) (.cons (.set 0 8 (.blt .tuple (.cons (.comp (.nm 13) (.of (.var 11)) .no (.call "_law_pieces" s__law_pieces (.cons (.var 4) (.cons (.var 13) (.cons (.var 2) .nil)))) [("lot", 13)]) .nil))) (.cons (.ife (.nt (.call "_law_alike" (s__law_alike 6) (.cons (.call "pieces_by_wide" s_pieces_by_wide (.cons (.var 0) (.cons (.var 3) (.cons (.var 7) .nil)))) (.cons (.var 8) .nil)))) (.cons (.ret (.con (.bool false))) .nil) .nil) (.cons (.set 0 10 (.con (.int 1))) (.cons (.for_ (.nm 12) (.rng (.cons (.con (.int 1)) (.cons (.bin .Add (.blt .min (.cons (.sub (.var 5) (.con (.int 1))) (.cons (.bin .Add (.var 4) (.con (.int 1))) .nil))) (.con (.int 1))) .nil))) (.cons (.set 0 10 (.var 12)) (.cons (.set 0 13 (.call "_law_with" s__law_with (.cons (.var 1) (.cons (.var 3) (.cons (.call "_law_runs" s__law_runs (.cons (.var 0) (.cons (.bin .Add (.bin .Add (.slc (.var 5) .no (.so (.con (.int 1)))) (.tup (.cons (.var 12) .nil))) (.slc (.var 5) (.so (.con (.int 2))) .no)) .nil))) .nil))))) (.cons (.ife (.cmp .Eq (.call "_law_pieces" s__law_pieces (.cons (.var 4) (.cons (.var 13) (.cons (.var 2) .nil)))) (.var 6)) (.cons (.brk) .nil) .nil) .nil)))) (.cons (.ret (.call "_law_alike" (s__law_alike 6) (.cons (.call "least_wide" s_least_wide (.cons (.var 0) (.cons (.var 3) .nil))) (.cons (.var 10) .nil)))) .nil)))))))))))))))))⟩
def s__law_rule_asked : Sem := run f__law_rule_asked
/-- _law_strange_asked; top 48; calls ['_law_pick', '_law_alike', '_law_refused'] -/
def n__law_strange_asked : List Str := ["well", "case", "many", "strange", "thing", "word"]
def f__law_strange_asked : Fn := ⟨2, 6, (.cons (.set 0 2 (.blt .len (.cons (.sub (.var 1) (.con (.int 1))) .nil))) (.cons (.set 0 3 (.lst (.cons (.var 2) (.cons (.neg (.con (.int 1))) (.cons (.con (.bool true)) (.cons (.con (.bool false)) (.cons (.con .none) (.cons (.con (.str "0")) (.cons (.tup (.cons (.con (.int 0)) .nil)) (.cons (.bin .Pow (.con (.int 10)) (.con (.int 60))) (.cons (.bin .Add (.var 2) (.con (.int 1))) (.cons (.lst (.cons (.con (.int 0)) .nil)) .nil)))))))))))) (.cons (.for_ (.nm 4) (.of (.tup (.cons (.sub (.var 3) (.call "_law_pick" s__law_pick (.cons (.var 0) (.cons (.con (.int 10)) .nil)))) (.cons (.var 2) (.cons (.con (.bool true)) .nil))))) (.cons (.for_ (.nm 5) (.of (.tup (.cons (.con (.str "most")) (.cons (.con (.str "wide")) (.cons (.con (.str "least most")) (.cons (.con (.str "least wide")) .nil)))))) (.cons (.ife (.nt (.call "_law_alike" (s__law_alike 6) (.cons (.call "_law_refused" s__law_refused (.cons (.var 5) (.cons (.var 1) (.cons (.var 4) .nil)))) (.cons (.tup (.cons (.con (.str "refused")) (.cons (.con (.str "rule")) (.cons (.var 4) .nil)))) .nil)))) (.cons (.ret (.con (.bool false))) .nil) .nil) .nil)) .nil)) (.cons (.ret (.con (.bool true))) .nil))))⟩
def s__law_strange_asked : Sem := run f__law_strange_asked
/-- _law_looked; top 49; calls ['_law_alike', 'piece_count', 'greedy_cuts', 'reach_table', '_law_cuts'] -/
def n__law_looked : List Str := ["case", "reach", "cuts"]
def f__law_looked : Fn := ⟨2, 3, (.cons (.set 0 2 (.call "_law_cuts" s__law_cuts (.cons (.var 1) .nil))) (.cons (.ife (.or (.cons (.nt (.call "_law_alike" (s__law_alike 6) (.cons (.call "reach_table" s_reach_table (.cons (.var 0) .nil)) (.cons (.blt .tuple (.cons (.var 1) .nil)) .nil)))) (.cons (.nt (.call "_law_alike" (s__law_alike 6) (.cons (.call "greedy_cuts" s_greedy_cuts (.cons (.var 0) .nil)) (.cons (.blt .tuple (.cons (.var 2) .nil)) .nil)))) .nil))) (.cons (.ret (.con (.bool false))) .nil) .nil) (.cons (.ret (.call "_law_alike" (s__law_alike 6) (.cons (.call "piece_count" s_piece_count (.cons (.var 0) .nil)) (.cons (.bin .Add (.blt .len (.cons (.var 2) .nil)) (.blt .int (.cons (.cmp .Gt (.blt .len (.cons (.var 1) .nil)) (.con (.int 0))) .nil))) .nil)))) .nil)))⟩
def s__law_looked : Sem := run f__law_looked
/-- law; top 50; calls ['_law_strange_asked', '_law_rule_asked', '_law_pick', '_law_alike', '_law_pieces', 'lost_by_bounds', '_law_looked', '_law_reach', '_law_runs', 'widest_case', '_law_case'] -/
def n_law : List Str := ["script", "well", "case", "size", "runs", "rule", "mosts", "wide", "widest", "far", "most", "first", "lap"]
def b_law : Sts := (.cons (.set 0 2 (.call "_law_case" s__law_case (.cons (.var 1) .nil))) (.cons (.set 0 3 (.blt .len (.cons (.sub (.var 2) (.con (.int 2))) .nil))) (.cons (.set 0 4 (.comp (.nm 5) (.of (.sub (.var 2) (.con (.int 1)))) .no (.call "_law_runs" s__law_runs (.cons (.var 2) (.cons (.var 5) .nil))) [("rule", 5)])) (.cons (.set 0 6 (.comp (.nm 5) (.of (.sub (.var 2) (.con (.int 1)))) .no (.sub (.var 5) (.bin .Sub (.blt .len (.cons (.var 5) .nil)) (.con (.int 1)))) [("rule", 5)])) (.cons (.set 1 7 (.lst .nil)) (.cons (.for_ (.nm 5) (.of (.sub (.var 2) (.con (.int 1)))) (.cons (.ife (.cmp .Eq (.sub (.var 5) (.con (.int 0))) (.con (.str "elder"))) (.cons (.app 7 (.bin .Add (.slc (.var 5) .no (.so (.con (.int 3)))) (.tup (.cons (.con (.int 300)) .nil)))) .nil) (.cons (.app 7 (.tup (.cons (.con (.str "back")) (.cons (.con (.int 300)) (.cons (.sub (.var 5) (.con (.int 2))) (.cons (.sub (.var 5) (.con (.int 3))) (.cons (.con (.int 300)) .nil))))))) .nil)) .nil)) (.cons (.set 0 8 (.tup (.cons (.sub (.var 2) (.con (.int 0))) (.cons (.blt .tuple (.cons (.var 7) .nil)) (.cons (.sub (.var 2) (.con (.int 2))) .nil))))) (.cons (.ife (.nt (.call "_law_alike" (s__law_alike 6) (.cons (.call "widest_case" s_widest_case (.cons (.var 2) .nil)) (.cons (.var 8) .nil)))) (.cons (.ret (.con (.bool false))) .nil) .nil) (.cons (.ife (.nt (.call "_law_looked" s__law_looked (.cons (.var 2) (.cons (.call "_law_reach" s__law_reach (.cons (.var 3) (.cons (.var 4) (.cons (.var 6) .nil)))) .nil)))) (.cons (.ret (.con (.bool false))) .nil) .nil) (.cons (.set 0 9 (.comp (.nm 5) (.of (.var 7)) .no (.call "_law_runs" s__law_runs (.cons (.var 8) (.cons (.var 5) .nil))) [("rule", 5)])) (.cons (.set 0 10 (.comp (.nm 5) (.of (.var 7)) .no (.con (.int 300)) [("rule", 5)])) (.cons (.ife (.nt (.call "_law_looked" s__law_looked (.cons (.var 8) (.cons (.call "_law_reach" s__law_reach (.cons (.var 3) (.cons (.var 9) (.cons (.var 10) .nil)))) .nil)))) (.cons (.ret (.con (.bool false))) .nil) .nil) (.cons (.ife (.nt (.call "_law_alike" (s__law_alike 6) (.cons (.call "lost_by_bounds" s_lost_by_bounds (.cons (.var 2) .nil)) (.cons (.bin .Sub (.call "_law_pieces" s__law_pieces (.cons (.var 3) (.cons (.var 4) (.cons (.var 6) .nil)))) (.call "_law_pieces" s__law_pieces (.cons (.var 3) (.cons (.var 9) (.cons (.var 10) .nil))))) .nil)))) (.cons (.ret (.con (.bool false))) .nil) .nil) (.cons (.set 0 11 (.call "_law_pick" s__law_pick (.cons (.var 1) (.cons (.blt .len (.cons (.sub (.var 2) (.con (.int 1))) .nil)) .nil)))) (.cons (.for_ (.nm 12) (.rng (.cons (.blt .min (.cons (.bin .Sub (.con (.int 2)) (.blt .int (.cons (.cmp .Gt (.var 3) (.con (.int 12))) .nil))) (.cons (.blt .len (.cons (.sub (.var 2) (.con (.int 1))) .nil)) .nil))) .nil)) (.cons (.ife (.nt (.call "_law_rule_asked" s__law_rule_asked (.cons (.var 2) (.cons (.var 4) (.cons (.var 6) (.cons (.bin .Mod (.blt .int (.cons (.bin .Add (.var 11) (.var 12)) .nil)) (.blt .len (.cons (.sub (.var 2) (.con (.int 1))) .nil))) .nil)))))) (.cons (.ret (.con (.bool false))) .nil) .nil) .nil)) (.cons (.ret (.call "_law_strange_asked" s__law_strange_asked (.cons (.var 1) (.cons (.var 2) .nil)))) .nil))))))))))))))))
end K86
set_option Elab.async false
set_option linter.all false
set_option maxRecDepth 100000
set_option maxHeartbeats 4000000
/-! the defs of law k86 do what their terms say (written by genfn.py) -/
namespace K86
open PySem PySem.Spec PyProof.Rows L2 TI
structure Txt (K : PySem.W.Frag) (mg : Str → Option Value) : Prop where
  t_is_number : FnAt K mg "is_number" (topS 8) ["thing"]
  t_check_stretch : FnAt K mg "check_stretch" (topS 9) ["text", "thing"]
  t_is_turning : FnAt K mg "is_turning" (topS 12) ["rule"]
  t__heard_by : FnAt K mg "_heard_by" (topS 14) ["case", "number", "first", "many"]
  t_is_heard : FnAt K mg "is_heard" (topS 15) ["case", "stretch"]
  t_reach_table : FnAt K mg "reach_table" (topS 16) ["case"]
  t_greedy_cuts : FnAt K mg "greedy_cuts" (topS 18) ["case"]
  t_fewest_count : FnAt K mg "fewest_count" (topS 19) ["case"]
  t_piece_count : FnAt K mg "piece_count" (topS 20) ["case"]
  t__with : FnAt K mg "_with" (topS 22) ["case", "number", "rule"]
  t__check_rule : FnAt K mg "_check_rule" (topS 23) ["case", "number"]
  t_pieces_by_most : FnAt K mg "pieces_by_most" (topS 24) ["case", "number", "mosts"]
  t_pieces_by_wide : FnAt K mg "pieces_by_wide" (topS 25) ["case", "number", "wides"]
  t_least_most : FnAt K mg "least_most" (topS 26) ["case", "number"]
  t_least_wide : FnAt K mg "least_wide" (topS 27) ["case", "number"]
  t_widest_case : FnAt K mg "widest_case" (topS 28) ["case"]
  t_lost_by_bounds : FnAt K mg "lost_by_bounds" (topS 29) ["case"]
  t__law_well : FnAt K mg "_law_well" (topS 31) ["script"]
  t__law_pick : FnAt K mg "_law_pick" (topS 32) ["well", "many"]
  t__law_alike : FnAt K mg "_law_alike" (topS 33) ["told", "due"]
  t__law_signs : FnAt K mg "_law_signs" (topS 34) ["well"]
  t__law_text : FnAt K mg "_law_text" (topS 35) ["well", "signs", "size"]
  t__law_plain_run : FnAt K mg "_law_plain_run" (topS 36) ["text", "new", "first", "at", "back", "wide", "apart"]
  t__law_turned_run : FnAt K mg "_law_turned_run" (topS 37) ["text", "new", "first", "at", "back", "wide"]
  t__law_runs : FnAt K mg "_law_runs" (topS 38) ["case", "rule"]
  t__law_reach : FnAt K mg "_law_reach" (topS 39) ["size", "runs", "mosts"]
  t__law_cuts : FnAt K mg "_law_cuts" (topS 40) ["reach"]
  t__law_pieces : FnAt K mg "_law_pieces" (topS 41) ["size", "runs", "mosts"]
  t__law_part : FnAt K mg "_law_part" (topS 42) ["well", "new", "signs"]
  t__law_rule : FnAt K mg "_law_rule" (topS 43) ["well", "elders"]
  t__law_case : FnAt K mg "_law_case" (topS 44) ["well"]
  t__law_with : FnAt K mg "_law_with" (topS 45) ["rows", "number", "row"]
  t__law_refused : FnAt K mg "_law_refused" (topS 46) ["word", "case", "number"]
  t__law_rule_asked : FnAt K mg "_law_rule_asked" (topS 47) ["case", "runs", "mosts", "number"]
  t__law_strange_asked : FnAt K mg "_law_strange_asked" (topS 48) ["well", "case"]
  t__law_looked : FnAt K mg "_law_looked" (topS 49) ["case", "reach"]
  gl_MOST_WIDE : ∃ tk, mg "MOST_WIDE" = some (.int 300 tk)
  c_NoSuch : ClF K mg "NoSuch" (inClass (topS 6) 0) ["self", "word", "name"] ["word", "name"]
  q__law_refused : ∀ p ∈ f__law_refused.body.tris, TrOk K mg p
  z : ∀ x ∈ bnames, mg x = none
section
variable {P : Program} {w : World} {K : PySem.W.Frag} {mg : Str → Option Value} {base : Heap} {r c : Addr}
theorem gl_MOST_WIDE (T : Txt K mg) : ∃ u v, mg "MOST_WIDE" = some u ∧ RelV v u ∧ ∀ H B, Den K (wellZ r c).r H B v (.int 300) := by
  obtain ⟨tk, e⟩ := T.gl_MOST_WIDE
  exact ⟨_, .int 300, e, ⟨tk, rfl⟩, fun _ _ => .int _⟩
theorem rs_NoSuch (T : Txt K mg) : RsOk P w K mg base "NoSuch" ["name", "word"] := rs_ok T.c_NoSuch ⟨rfl, rfl, rfl, by decide +kernel, rfl, by decide +kernel, by decide +kernel⟩ (by decide +kernel) rfl (by decide) (by decide) rfl
theorem g__law_pick (T : Txt K mg) : GFn P w K mg base (wellZ r c) 1 "_law_pick" s__law_pick := by
  obtain ⟨f, fd, F, b, m⟩ := T.t__law_pick
  exact ok_pick F b m (T.z _ (by decide)) (T.z _ (by decide))
theorem sc_is_number : FnScope n_is_number ["thing"] (defScope (topS 8)) := ⟨rfl, rfl, rfl, by decide +kernel, rfl, by decide +kernel, by decide +kernel⟩
theorem g_is_number (T : Txt K mg) : GFn P w K mg base (wellZ r c) 1 "is_number" s_is_number := by
  obtain ⟨f, fd, F, b, m⟩ := T.t_is_number
  exact gfn F sc_is_number b m f_is_number rfl rfl (by decide +kernel) T.z (fun p hp => absurd hp List.not_mem_nil) (fun p hp => absurd hp List.not_mem_nil) (fun p hp => absurd hp List.not_mem_nil) (fun z => absurd rfl z) (fun p hp => absurd hp List.not_mem_nil)
theorem sc_check_stretch : FnScope n_check_stretch ["text", "thing"] (defScope (topS 9)) := ⟨rfl, rfl, rfl, by decide +kernel, rfl, by decide +kernel, by decide +kernel⟩
theorem g_check_stretch (T : Txt K mg) : GFn P w K mg base (wellZ r c) 3 "check_stretch" s_check_stretch := by
  obtain ⟨f, fd, F, b, m⟩ := T.t_check_stretch
  exact gfn F sc_check_stretch b m f_check_stretch rfl rfl (by decide +kernel) T.z (fun p hp => by
    repeat (rcases List.mem_cons.mp hp with rfl | hp; first | exact (g_is_number T).mono (by decide) )
    exact absurd hp List.not_mem_nil) (fun p hp => absurd hp List.not_mem_nil) (fun p hp => by
    repeat (rcases List.mem_cons.mp hp with rfl | hp; first | exact rs_NoSuch T )
    exact absurd hp List.not_mem_nil) (fun _ => by decide) (fun p hp => absurd hp List.not_mem_nil)
theorem sc_is_turning : FnScope n_is_turning ["rule"] (defScope (topS 12)) := ⟨rfl, rfl, rfl, by decide +kernel, rfl, by decide +kernel, by decide +kernel⟩
theorem g_is_turning (T : Txt K mg) : GFn P w K mg base (wellZ r c) 1 "is_turning" s_is_turning := by
  obtain ⟨f, fd, F, b, m⟩ := T.t_is_turning
  exact gfn F sc_is_turning b m f_is_turning rfl rfl (by decide +kernel) T.z (fun p hp => absurd hp List.not_mem_nil) (fun p hp => absurd hp List.not_mem_nil) (fun p hp => absurd hp List.not_mem_nil) (fun z => absurd rfl z) (fun p hp => absurd hp List.not_mem_nil)
theorem sc__heard_by : FnScope n__heard_by ["case", "number", "first", "many"] (defScope (topS 14)) := ⟨rfl, rfl, rfl, by decide +kernel, rfl, by decide +kernel, by decide +kernel⟩
theorem g__heard_by (T : Txt K mg) : GFn P w K mg base (wellZ r c) 2 "_heard_by" s__heard_by := by
  obtain ⟨f, fd, F, b, m⟩ := T.t__heard_by
  exact gfn F sc__heard_by b m f__heard_by rfl rfl (by decide +kernel) T.z (fun p hp => by
    repeat (rcases List.mem_cons.mp hp with rfl | hp; first | exact (g_is_turning T).mono (by decide) )
    exact absurd hp List.not_mem_nil) (fun p hp => absurd hp List.not_mem_nil) (fun p hp => absurd hp List.not_mem_nil) (fun z => absurd rfl z) (fun p hp => absurd hp List.not_mem_nil)
theorem sc_is_heard : FnScope n_is_heard ["case", "stretch"] (defScope (topS 15)) := ⟨rfl, rfl, rfl, by decide +kernel, rfl, by decide +kernel, by decide +kernel⟩
theorem g_is_heard (T : Txt K mg) : GFn P w K mg base (wellZ r c) 4 "is_heard" s_is_heard := by
  obtain ⟨f, fd, F, b, m⟩ := T.t_is_heard
  exact gfn F sc_is_heard b m f_is_heard rfl rfl (by decide +kernel) T.z (fun p hp => by
    repeat (rcases List.mem_cons.mp hp with rfl | hp; first | exact (g_check_stretch T).mono (by decide) | exact (g__heard_by T).mono (by decide) )
    exact absurd hp List.not_mem_nil) (fun p hp => absurd hp List.not_mem_nil) (fun p hp => absurd hp List.not_mem_nil) (fun z => absurd rfl z) (fun p hp => absurd hp List.not_mem_nil)
theorem sc_reach_table : FnScope n_reach_table ["case"] (defScope (topS 16)) := ⟨rfl, rfl, rfl, by decide +kernel, rfl, by decide +kernel, by decide +kernel⟩
theorem g_reach_table (T : Txt K mg) : GFn P w K mg base (wellZ r c) 5 "reach_table" s_reach_table := by
  obtain ⟨f, fd, F, b, m⟩ := T.t_reach_table
  exact gfn F sc_reach_table b m f_reach_table rfl rfl (by decide +kernel) T.z (fun p hp => by
    repeat (rcases List.mem_cons.mp hp with rfl | hp; first | exact (g_is_heard T).mono (by decide) )
    exact absurd hp List.not_mem_nil) (fun p hp => absurd hp List.not_mem_nil) (fun p hp => absurd hp List.not_mem_nil) (fun z => absurd rfl z) (fun p hp => absurd hp List.not_mem_nil)
theorem sc_greedy_cuts : FnScope n_greedy_cuts ["case"] (defScope (topS 18)) := ⟨rfl, rfl, rfl, by decide +kernel, rfl, by decide +kernel, by decide +kernel⟩
theorem g_greedy_cuts (T : Txt K mg) : GFn P w K mg base (wellZ r c) 6 "greedy_cuts" s_greedy_cuts := by
  obtain ⟨f, fd, F, b, m⟩ := T.t_greedy_cuts
  exact gfn F sc_greedy_cuts b m f_greedy_cuts rfl rfl (by decide +kernel) T.z (fun p hp => by
    repeat (rcases List.mem_cons.mp hp with rfl | hp; first | exact (g_reach_table T).mono (by decide) )
    exact absurd hp List.not_mem_nil) (fun p hp => absurd hp List.not_mem_nil) (fun p hp => absurd hp List.not_mem_nil) (fun z => absurd rfl z) (fun p hp => absurd hp List.not_mem_nil)
theorem sc_fewest_count : FnScope n_fewest_count ["case"] (defScope (topS 19)) := ⟨rfl, rfl, rfl, by decide +kernel, rfl, by decide +kernel, by decide +kernel⟩
theorem g_fewest_count (T : Txt K mg) : GFn P w K mg base (wellZ r c) 7 "fewest_count" s_fewest_count := by
  obtain ⟨f, fd, F, b, m⟩ := T.t_fewest_count
  exact gfn F sc_fewest_count b m f_fewest_count rfl rfl (by decide +kernel) T.z (fun p hp => by
    repeat (rcases List.mem_cons.mp hp with rfl | hp; first | exact (g_greedy_cuts T).mono (by decide) )
    exact absurd hp List.not_mem_nil) (fun p hp => absurd hp List.not_mem_nil) (fun p hp => absurd hp List.not_mem_nil) (fun z => absurd rfl z) (fun p hp => absurd hp List.not_mem_nil)
theorem sc_piece_count : FnScope n_piece_count ["case"] (defScope (topS 20)) := ⟨rfl, rfl, rfl, by decide +kernel, rfl, by decide +kernel, by decide +kernel⟩
theorem g_piece_count (T : Txt K mg) : GFn P w K mg base (wellZ r c) 8 "piece_count" s_piece_count := by
  obtain ⟨f, fd, F, b, m⟩ := T.t_piece_count
  exact gfn F sc_piece_count b m f_piece_count rfl rfl (by decide +kernel) T.z (fun p hp => by
    repeat (rcases List.mem_cons.mp hp with rfl | hp; first | exact (g_fewest_count T).mono (by decide) )
    exact absurd hp List.not_mem_nil) (fun p hp => absurd hp List.not_mem_nil) (fun p hp => absurd hp List.not_mem_nil) (fun z => absurd rfl z) (fun p hp => absurd hp List.not_mem_nil)
theorem sc__with : FnScope n__with ["case", "number", "rule"] (defScope (topS 22)) := ⟨rfl, rfl, rfl, by decide +kernel, rfl, by decide +kernel, by decide +kernel⟩
theorem g__with (T : Txt K mg) : GFn P w K mg base (wellZ r c) 1 "_with" s__with := by
  obtain ⟨f, fd, F, b, m⟩ := T.t__with
  exact gfn F sc__with b m f__with rfl rfl (by decide +kernel) T.z (fun p hp => absurd hp List.not_mem_nil) (fun p hp => absurd hp List.not_mem_nil) (fun p hp => absurd hp List.not_mem_nil) (fun z => absurd rfl z) (fun p hp => absurd hp List.not_mem_nil)
theorem sc__check_rule : FnScope n__check_rule ["case", "number"] (defScope (topS 23)) := ⟨rfl, rfl, rfl, by decide +kernel, rfl, by decide +kernel, by decide +kernel⟩
theorem g__check_rule (T : Txt K mg) : GFn P w K mg base (wellZ r c) 3 "_check_rule" s__check_rule := by
  obtain ⟨f, fd, F, b, m⟩ := T.t__check_rule
  exact gfn F sc__check_rule b m f__check_rule rfl rfl (by decide +kernel) T.z (fun p hp => absurd hp List.not_mem_nil) (fun p hp => absurd hp List.not_mem_nil) (fun p hp => by
    repeat (rcases List.mem_cons.mp hp with rfl | hp; first | exact rs_NoSuch T )
    exact absurd hp List.not_mem_nil) (fun _ => by decide) (fun p hp => absurd hp List.not_mem_nil)
theorem sc_pieces_by_most : FnScope n_pieces_by_most ["case", "number", "mosts"] (defScope (topS 24)) := ⟨rfl, rfl, rfl, by decide +kernel, rfl, by decide +kernel, by decide +kernel⟩
theorem g_pieces_by_most (T : Txt K mg) : GFn P w K mg base (wellZ r c) 9 "pieces_by_most" s_pieces_by_most := by
  obtain ⟨f, fd, F, b, m⟩ := T.t_pieces_by_most
  exact gfn F sc_pieces_by_most b m f_pieces_by_most rfl rfl (by decide +kernel) T.z (fun p hp => by
    repeat (rcases List.mem_cons.mp hp with rfl | hp; first | exact (g__check_rule T).mono (by decide) | exact (g_piece_count T).mono (by decide) | exact (g__with T).mono (by decide) )
    exact absurd hp List.not_mem_nil) (fun p hp => absurd hp List.not_mem_nil) (fun p hp => absurd hp List.not_mem_nil) (fun z => absurd rfl z) (fun p hp => absurd hp List.not_mem_nil)
theorem sc_pieces_by_wide : FnScope n_pieces_by_wide ["case", "number", "wides"] (defScope (topS 25)) := ⟨rfl, rfl, rfl, by decide +kernel, rfl, by decide +kernel, by decide +kernel⟩
theorem g_pieces_by_wide (T : Txt K mg) : GFn P w K mg base (wellZ r c) 9 "pieces_by_wide" s_pieces_by_wide := by
  obtain ⟨f, fd, F, b, m⟩ := T.t_pieces_by_wide
  exact gfn F sc_pieces_by_wide b m f_pieces_by_wide rfl rfl (by decide +kernel) T.z (fun p hp => by
    repeat (rcases List.mem_cons.mp hp with rfl | hp; first | exact (g__check_rule T).mono (by decide) | exact (g_piece_count T).mono (by decide) | exact (g__with T).mono (by decide) )
    exact absurd hp List.not_mem_nil) (fun p hp => absurd hp List.not_mem_nil) (fun p hp => by
    repeat (rcases List.mem_cons.mp hp with rfl | hp; first | exact rs_NoSuch T )
    exact absurd hp List.not_mem_nil) (fun _ => by decide) (fun p hp => absurd hp List.not_mem_nil)
theorem sc_least_most : FnScope n_least_most ["case", "number"] (defScope (topS 26)) := ⟨rfl, rfl, rfl, by decide +kernel, rfl, by decide +kernel, by decide +kernel⟩
theorem g_least_most (T : Txt K mg) : GFn P w K mg base (wellZ r c) 9 "least_most" s_least_most := by
  obtain ⟨f, fd, F, b, m⟩ := T.t_least_most
  exact gfn F sc_least_most b m f_least_most rfl rfl (by decide +kernel) T.z (fun p hp => by
    repeat (rcases List.mem_cons.mp hp with rfl | hp; first | exact (g__check_rule T).mono (by decide) | exact (g_piece_count T).mono (by decide) | exact (g__with T).mono (by decide) )
    exact absurd hp List.not_mem_nil) (fun p hp => absurd hp List.not_mem_nil) (fun p hp => absurd hp List.not_mem_nil) (fun z => absurd rfl z) (fun p hp => absurd hp List.not_mem_nil)
theorem sc_least_wide : FnScope n_least_wide ["case", "number"] (defScope (topS 27)) := ⟨rfl, rfl, rfl, by decide +kernel, rfl, by decide +kernel, by decide +kernel⟩
theorem g_least_wide (T : Txt K mg) : GFn P w K mg base (wellZ r c) 9 "least_wide" s_least_wide := by
  obtain ⟨f, fd, F, b, m⟩ := T.t_least_wide
  exact gfn F sc_least_wide b m f_least_wide rfl rfl (by decide +kernel) T.z (fun p hp => by
    repeat (rcases List.mem_cons.mp hp with rfl | hp; first | exact (g__check_rule T).mono (by decide) | exact (g_piece_count T).mono (by decide) | exact (g__with T).mono (by decide) )
    exact absurd hp List.not_mem_nil) (fun p hp => absurd hp List.not_mem_nil) (fun p hp => by
    repeat (rcases List.mem_cons.mp hp with rfl | hp; first | exact rs_NoSuch T )
    exact absurd hp List.not_mem_nil) (fun _ => by decide) (fun p hp => absurd hp List.not_mem_nil)
theorem sc_widest_case : FnScope n_widest_case ["case"] (defScope (topS 28)) := ⟨rfl, rfl, rfl, by decide +kernel, rfl, by decide +kernel, by decide +kernel⟩
theorem g_widest_case (T : Txt K mg) : GFn P w K mg base (wellZ r c) 1 "widest_case" s_widest_case := by
  obtain ⟨f, fd, F, b, m⟩ := T.t_widest_case
  exact gfn F sc_widest_case b m f_widest_case rfl rfl (by decide +kernel) T.z (fun p hp => absurd hp List.not_mem_nil) (fun p hp => by
    repeat (rcases List.mem_cons.mp hp with rfl | hp; first | exact gl_MOST_WIDE T )
    exact absurd hp List.not_mem_nil) (fun p hp => absurd hp List.not_mem_nil) (fun z => absurd rfl z) (fun p hp => absurd hp List.not_mem_nil)
theorem sc_lost_by_bounds : FnScope n_lost_by_bounds ["case"] (defScope (topS 29)) := ⟨rfl, rfl, rfl, by decide +kernel, rfl, by decide +kernel, by decide +kernel⟩
theorem g_lost_by_bounds (T : Txt K mg) : GFn P w K mg base (wellZ r c) 9 "lost_by_bounds" s_lost_by_bounds := by
  obtain ⟨f, fd, F, b, m⟩ := T.t_lost_by_bounds
  exact gfn F sc_lost_by_bounds b m f_lost_by_bounds rfl rfl (by decide +kernel) T.z (fun p hp => by
    repeat (rcases List.mem_cons.mp hp with rfl | hp; first | exact (g_piece_count T).mono (by decide) | exact (g_widest_case T).mono (by decide) )
    exact absurd hp List.not_mem_nil) (fun p hp => absurd hp List.not_mem_nil) (fun p hp => absurd hp List.not_mem_nil) (fun z => absurd rfl z) (fun p hp => absurd hp List.not_mem_nil)
theorem sc__law_alike : FnScope n__law_alike ["told", "due"] (defScope (topS 33)) := ⟨rfl, rfl, rfl, by decide +kernel, rfl, by decide +kernel, by decide +kernel⟩
theorem g__law_alike_at (T : Txt K mg) : ∀ n, GFn P w K mg base (wellZ r c) (n + 1) "_law_alike" (s__law_alike n)
  | 0 => by
    obtain ⟨f, fd, F, b, m⟩ := T.t__law_alike
    exact gfn_stk F sc__law_alike b m
  | n + 1 => by
    obtain ⟨f, fd, F, b, m⟩ := T.t__law_alike
    refine gfn F sc__law_alike b m (f__law_alike (s__law_alike n)) rfl rfl (by rfl) T.z (fun p hp => by
    repeat (rcases List.mem_cons.mp hp with rfl | hp; first | exact g__law_alike_at T n )
    exact absurd hp List.not_mem_nil) (fun p hp => absurd hp List.not_mem_nil) (fun p hp => absurd hp List.not_mem_nil) (fun z => absurd rfl z) (fun p hp => absurd hp List.not_mem_nil)
theorem g__law_alike (T : Txt K mg) : GFn P w K mg base (wellZ r c) 7 "_law_alike" (s__law_alike 6) := g__law_alike_at T 6
theorem sc__law_signs : FnScope n__law_signs ["well"] (defScope (topS 34)) := ⟨rfl, rfl, rfl, by decide +kernel, rfl, by decide +kernel, by decide +kernel⟩
theorem g__law_signs (T : Txt K mg) : GFn P w K mg base (wellZ r c) 2 "_law_signs" s__law_signs := by
  obtain ⟨f, fd, F, b, m⟩ := T.t__law_signs
  exact gfn F sc__law_signs b m f__law_signs rfl rfl (by decide +kernel) T.z (fun p hp => by
    repeat (rcases List.mem_cons.mp hp with rfl | hp; first | exact (g__law_pick T).mono (by decide) )
    exact absurd hp List.not_mem_nil) (fun p hp => absurd hp List.not_mem_nil) (fun p hp => absurd hp List.not_mem_nil) (fun z => absurd rfl z) (fun p hp => absurd hp List.not_mem_nil)
theorem sc__law_text : FnScope n__law_text ["well", "signs", "size"] (defScope (topS 35)) := ⟨rfl, rfl, rfl, by decide +kernel, rfl, by decide +kernel, by decide +kernel⟩
theorem g__law_text (T : Txt K mg) : GFn P w K mg base (wellZ r c) 2 "_law_text" s__law_text := by
  obtain ⟨f, fd, F, b, m⟩ := T.t__law_text
  exact gfn F sc__law_text b m f__law_text rfl rfl (by decide +kernel) T.z (fun p hp => by
    repeat (rcases List.mem_cons.mp hp with rfl | hp; first | exact (g__law_pick T).mono (by decide) )
    exact absurd hp List.not_mem_nil) (fun p hp => absurd hp List.not_mem_nil) (fun p hp => absurd hp List.not_mem_nil) (fun z => absurd rfl z) (fun p hp => absurd hp List.not_mem_nil)
theorem sc__law_plain_run : FnScope n__law_plain_run ["text", "new", "first", "at", "back", "wide", "apart"] (defScope (topS 36)) := ⟨rfl, rfl, rfl, by decide +kernel, rfl, by decide +kernel, by decide +kernel⟩
theorem g__law_plain_run (T : Txt K mg) : GFn P w K mg base (wellZ r c) 1 "_law_plain_run" s__law_plain_run := by
  obtain ⟨f, fd, F, b, m⟩ := T.t__law_plain_run
  exact gfn F sc__law_plain_run b m f__law_plain_run rfl rfl (by decide +kernel) T.z (fun p hp => absurd hp List.not_mem_nil) (fun p hp => absurd hp List.not_mem_nil) (fun p hp => absurd hp List.not_mem_nil) (fun z => absurd rfl z) (fun p hp => absurd hp List.not_mem_nil)
theorem sc__law_turned_run : FnScope n__law_turned_run ["text", "new", "first", "at", "back", "wide"] (defScope (topS 37)) := ⟨rfl, rfl, rfl, by decide +kernel, rfl, by decide +kernel, by decide +kernel⟩
theorem g__law_turned_run (T : Txt K mg) : GFn P w K mg base (wellZ r c) 1 "_law_turned_run" s__law_turned_run := by
  obtain ⟨f, fd, F, b, m⟩ := T.t__law_turned_run
  exact gfn F sc__law_turned_run b m f__law_turned_run rfl rfl (by decide +kernel) T.z (fun p hp => absurd hp List.not_mem_nil) (fun p hp => absurd hp List.not_mem_nil) (fun p hp => absurd hp List.not_mem_nil) (fun z => absurd rfl z) (fun p hp => absurd hp List.not_mem_nil)
theorem sc__law_runs : FnScope n__law_runs ["case", "rule"] (defScope (topS 38)) := ⟨rfl, rfl, rfl, by decide +kernel, rfl, by decide +kernel, by decide +kernel⟩
theorem g__law_runs (T : Txt K mg) : GFn P w K mg base (wellZ r c) 2 "_law_runs" s__law_runs := by
  obtain ⟨f, fd, F, b, m⟩ := T.t__law_runs
  exact gfn F sc__law_runs b m f__law_runs rfl rfl (by decide +kernel) T.z (fun p hp => by
    repeat (rcases List.mem_cons.mp hp with rfl | hp; first | exact (g__law_turned_run T).mono (by decide) | exact (g__law_plain_run T).mono (by decide) )
    exact absurd hp List.not_mem_nil) (fun p hp => absurd hp List.not_mem_nil) (fun p hp => absurd hp List.not_mem_nil) (fun z => absurd rfl z) (fun p hp => absurd hp List.not_mem_nil)
theorem sc__law_reach : FnScope n__law_reach ["size", "runs", "mosts"] (defScope (topS 39)) := ⟨rfl, rfl, rfl, by decide +kernel, rfl, by decide +kernel, by decide +kernel⟩
theorem g__law_reach (T : Txt K mg) : GFn P w K mg base (wellZ r c) 1 "_law_reach" s__law_reach := by
  obtain ⟨f, fd, F, b, m⟩ := T.t__law_reach
  exact gfn F sc__law_reach b m f__law_reach rfl rfl (by decide +kernel) T.z (fun p hp => absurd hp List.not_mem_nil) (fun p hp => absurd hp List.not_mem_nil) (fun p hp => absurd hp List.not_mem_nil) (fun z => absurd rfl z) (fun p hp => absurd hp List.not_mem_nil)
theorem sc__law_cuts : FnScope n__law_cuts ["reach"] (defScope (topS 40)) := ⟨rfl, rfl, rfl, by decide +kernel, rfl, by decide +kernel, by decide +kernel⟩
theorem g__law_cuts (T : Txt K mg) : GFn P w K mg base (wellZ r c) 1 "_law_cuts" s__law_cuts := by
  obtain ⟨f, fd, F, b, m⟩ := T.t__law_cuts
  exact gfn F sc__law_cuts b m f__law_cuts rfl rfl (by decide +kernel) T.z (fun p hp => absurd hp List.not_mem_nil) (fun p hp => absurd hp List.not_mem_nil) (fun p hp => absurd hp List.not_mem_nil) (fun z => absurd rfl z) (fun p hp => absurd hp List.not_mem_nil)
theorem sc__law_pieces : FnScope n__law_pieces ["size", "runs", "mosts"] (defScope (topS 41)) := ⟨rfl, rfl, rfl, by decide +kernel, rfl, by decide +kernel, by decide +kernel⟩
theorem g__law_pieces (T : Txt K mg) : GFn P w K mg base (wellZ r c) 2 "_law_pieces" s__law_pieces := by
  obtain ⟨f, fd, F, b, m⟩ := T.t__law_pieces
  exact gfn F sc__law_pieces b m f__law_pieces rfl rfl (by decide +kernel) T.z (fun p hp => by
    repeat (rcases List.mem_cons.mp hp with rfl | hp; first | exact (g__law_cuts T).mono (by decide) | exact (g__law_reach T).mono (by decide) )
    exact absurd hp List.not_mem_nil) (fun p hp => absurd hp List.not_mem_nil) (fun p hp => absurd hp List.not_mem_nil) (fun z => absurd rfl z) (fun p hp => absurd hp List.not_mem_nil)
theorem sc__law_part : FnScope n__law_part ["well", "new", "signs"] (defScope (topS 42)) := ⟨rfl, rfl, rfl, by decide +kernel, rfl, by decide +kernel, by decide +kernel⟩
theorem g__law_part (T : Txt K mg) : GFn P w K mg base (wellZ r c) 3 "_law_part" s__law_part := by
  obtain ⟨f, fd, F, b, m⟩ := T.t__law_part
  exact gfn F sc__law_part b m f__law_part rfl rfl (by decide +kernel) T.z (fun p hp => by
    repeat (rcases List.mem_cons.mp hp with rfl | hp; first | exact (g__law_pick T).mono (by decide) | exact (g__law_text T).mono (by decide) )
    exact absurd hp List.not_mem_nil) (fun p hp => absurd hp List.not_mem_nil) (fun p hp => absurd hp List.not_mem_nil) (fun z => absurd rfl z) (fun p hp => absurd hp List.not_mem_nil)
theorem sc__law_rule : FnScope n__law_rule ["well", "elders"] (defScope (topS 43)) := ⟨rfl, rfl, rfl, by decide +kernel, rfl, by decide +kernel, by decide +kernel⟩
theorem g__law_rule (T : Txt K mg) : GFn P w K mg base (wellZ r c) 2 "_law_rule" s__law_rule := by
  obtain ⟨f, fd, F, b, m⟩ := T.t__law_rule
  exact gfn F sc__law_rule b m f__law_rule rfl rfl (by decide +kernel) T.z (fun p hp => by
    repeat (rcases List.mem_cons.mp hp with rfl | hp; first | exact (g__law_pick T).mono (by decide) )
    exact absurd hp List.not_mem_nil) (fun p hp => absurd hp List.not_mem_nil) (fun p hp => absurd hp List.not_mem_nil) (fun z => absurd rfl z) (fun p hp => absurd hp List.not_mem_nil)
theorem sc__law_case : FnScope n__law_case ["well"] (defScope (topS 44)) := ⟨rfl, rfl, rfl, by decide +kernel, rfl, by decide +kernel, by decide +kernel⟩
theorem g__law_case (T : Txt K mg) : GFn P w K mg base (wellZ r c) 4 "_law_case" s__law_case := by
  obtain ⟨f, fd, F, b, m⟩ := T.t__law_case
  exact gfn F sc__law_case b m f__law_case rfl rfl (by decide +kernel) T.z (fun p hp => by
    repeat (rcases List.mem_cons.mp hp with rfl | hp; first | exact (g__law_signs T).mono (by decide) | exact (g__law_text T).mono (by decide) | exact (g__law_pick T).mono (by decide) | exact (g__law_part T).mono (by decide) | exact (g__law_rule T).mono (by decide) )
    exact absurd hp List.not_mem_nil) (fun p hp => absurd hp List.not_mem_nil) (fun p hp => absurd hp List.not_mem_nil) (fun z => absurd rfl z) (fun p hp => absurd hp List.not_mem_nil)
theorem sc__law_with : FnScope n__law_with ["rows", "number", "row"] (defScope (topS 45)) := ⟨rfl, rfl, rfl, by decide +kernel, rfl, by decide +kernel, by decide +kernel⟩
theorem g__law_with (T : Txt K mg) : GFn P w K mg base (wellZ r c) 1 "_law_with" s__law_with := by
  obtain ⟨f, fd, F, b, m⟩ := T.t__law_with
  exact gfn F sc__law_with b m f__law_with rfl rfl (by decide +kernel) T.z (fun p hp => absurd hp List.not_mem_nil) (fun p hp => absurd hp List.not_mem_nil) (fun p hp => absurd hp List.not_mem_nil) (fun z => absurd rfl z) (fun p hp => absurd hp List.not_mem_nil)
theorem sc__law_refused : FnScope n__law_refused ["word", "case", "number"] (defScope (topS 46)) := ⟨rfl, rfl, rfl, by decide +kernel, rfl, by decide +kernel, by decide +kernel⟩
theorem g__law_refused (T : Txt K mg) : GFn P w K mg base (wellZ r c) 10 "_law_refused" s__law_refused := by
  obtain ⟨f, fd, F, b, m⟩ := T.t__law_refused
  exact gfn F sc__law_refused b m f__law_refused rfl rfl (by decide +kernel) T.z (fun p hp => by
    repeat (rcases List.mem_cons.mp hp with rfl | hp; first | exact (g_pieces_by_most T).mono (by decide) | exact (g_pieces_by_wide T).mono (by decide) | exact (g_least_most T).mono (by decide) | exact (g_least_wide T).mono (by decide) )
    exact absurd hp List.not_mem_nil) (fun p hp => absurd hp List.not_mem_nil) (fun p hp => absurd hp List.not_mem_nil) (fun z => absurd rfl z) T.q__law_refused
theorem sc__law_rule_asked : FnScope n__law_rule_asked ["case", "runs", "mosts", "number"] (defScope (topS 47)) := ⟨rfl, rfl, rfl, by decide +kernel, rfl, by decide +kernel, by decide +kernel⟩
theorem g__law_rule_asked (T : Txt K mg) : GFn P w K mg base (wellZ r c) 11 "_law_rule_asked" s__law_rule_asked := by
  obtain ⟨f, fd, F, b, m⟩ := T.t__law_rule_asked
  exact gfn F sc__law_rule_asked b m f__law_rule_asked rfl rfl (by decide +kernel) T.z (fun p hp => by
    repeat (rcases List.mem_cons.mp hp with rfl | hp; first | exact (g__law_pieces T).mono (by decide) | exact (g__law_alike T).mono (by decide) | exact (g__law_with T).mono (by decide) | exact (g_least_wide T).mono (by decide) | exact (g_pieces_by_most T).mono (by decide) | exact (g_least_most T).mono (by decide) | exact (g__law_refused T).mono (by decide) | exact (g__law_runs T).mono (by decide) | exact (g_pieces_by_wide T).mono (by decide) )
    exact absurd hp List.not_mem_nil) (fun p hp => absurd hp List.not_mem_nil) (fun p hp => absurd hp List.not_mem_nil) (fun z => absurd rfl z) (fun p hp => absurd hp List.not_mem_nil)
theorem sc__law_strange_asked : FnScope n__law_strange_asked ["well", "case"] (defScope (topS 48)) := ⟨rfl, rfl, rfl, by decide +kernel, rfl, by decide +kernel, by decide +kernel⟩
theorem g__law_strange_asked (T : Txt K mg) : GFn P w K mg base (wellZ r c) 11 "_law_strange_asked" s__law_strange_asked := by
  obtain ⟨f, fd, F, b, m⟩ := T.t__law_strange_asked
  exact gfn F sc__law_strange_asked b m f__law_strange_asked rfl rfl (by decide +kernel) T.z (fun p hp => by
    repeat (rcases List.mem_cons.mp hp with rfl | hp; first | exact (g__law_pick T).mono (by decide) | exact (g__law_alike T).mono (by decide) | exact (g__law_refused T).mono (by decide) )
    exact absurd hp List.not_mem_nil) (fun p hp => absurd hp List.not_mem_nil) (fun p hp => absurd hp List.not_mem_nil) (fun z => absurd rfl z) (fun p hp => absurd hp List.not_mem_nil)
theorem sc__law_looked : FnScope n__law_looked ["case", "reach"] (defScope (topS 49)) := ⟨rfl, rfl, rfl, by decide +kernel, rfl, by decide +kernel, by decide +kernel⟩
theorem g__law_looked (T : Txt K mg) : GFn P w K mg base (wellZ r c) 9 "_law_looked" s__law_looked := by
  obtain ⟨f, fd, F, b, m⟩ := T.t__law_looked
  exact gfn F sc__law_looked b m f__law_looked rfl rfl (by decide +kernel) T.z (fun p hp => by
    repeat (rcases List.mem_cons.mp hp with rfl | hp; first | exact (g__law_cuts T).mono (by decide) | exact (g__law_alike T).mono (by decide) | exact (g_piece_count T).mono (by decide) | exact (g_reach_table T).mono (by decide) | exact (g_greedy_cuts T).mono (by decide) )
    exact absurd hp List.not_mem_nil) (fun p hp => absurd hp List.not_mem_nil) (fun p hp => absurd hp List.not_mem_nil) (fun z => absurd rfl z) (fun p hp => absurd hp List.not_mem_nil)
-- levels: {'_law_pick': 1, 'is_number': 1, 'check_stretch': 3, 'is_turning': 1, '_heard_by': 2, 'is_heard': 4, 'reach_table': 5, 'greedy_cuts': 6, 'fewest_count': 7, 'piece_count': 8, '_with': 1, '_check_rule': 3, 'pieces_by_most': 9, 'pieces_by_wide': 9, 'least_most': 9, 'least_wide': 9, 'widest_case': 1, 'lost_by_bounds': 9, '_law_signs': 2, '_law_text': 2, '_law_plain_run': 1, '_law_turned_run': 1, '_law_runs': 2, '_law_reach': 1, '_law_cuts': 1, '_law_pieces': 2, '_law_part': 3, '_law_rule': 2, '_law_case': 4, '_law_with': 1, '_law_refused': 10, '_law_alike': 7, '_law_rule_asked': 11, '_law_strange_asked': 11, '_law_looked': 9}
-- law calls ['_law_case', '_law_strange_asked', '_law_runs', '_law_alike', '_law_looked', 'widest_case', '_law_reach', 'lost_by_bounds', '_law_rule_asked', '_law_pieces']
end
-- LAWLV 12
end K86
set_option Elab.async false
set_option linter.all false
set_option maxRecDepth 100000
set_option maxHeartbeats 4000000
/-! the law: the well is made, the rest runs (written by genE.py) -/
namespace K86
open PySem PySem.Spec PyProof.Rows L2 TI
def lawTrue : Prop := ∀ (cells : List Int) (stir : Int), cells ≠ [] → ∃ g', exSs b_law ([.no, .val .wel] ++ List.replicate 11 .no) [cells, [0], [stir]] = .ok (.rt (.bl true)) g'
theorem pss_ex {X : Cx} {ι : Type} {ss : List Stmt} {t : ι → TS} (h : ∀ i, PSs X ss (t i)) : PSs X ss (fun D σ H => ∃ i, t i D σ H) := ⟨fun pins s σ H D I ⟨i, q⟩ => (h i).run pins s σ H D I q⟩
section
variable {P : Program} {w : World} {K : PySem.W.Frag} {mg : Str → Option Value} {base : Heap}
theorem sc_law : FnScope n_law ["script"] (defScope (topS 50)) := ⟨rfl, rfl, rfl, by decide +kernel, rfl, by decide +kernel, by decide +kernel⟩
theorem law_fits : mSs n_law (defScope (topS 50)) b_law ((defBody (topS 50)).drop 1) = true := by decide +kernel
def spLaw (K : PySem.W.Frag) : Sp := fun vs H Q _ => ∃ (a : Addr) (ns : List Int), vs = [.ref a] ∧ SqL K H a (ns.map V.int) ∧ ns.length ≤ 63 ∧ ∀ H', Q (.bl true) H'
theorem law_calls (T : Txt K mg) {r c : Addr} : ∀ p ∈ b_law.calls, GFn P w K mg base (wellZ r c) 11 p.1 p.2 := fun p hp => by
  repeat (rcases List.mem_cons.mp hp with rfl | hp; first | exact (g__law_pick T).mono (by decide) | exact (g__law_case T).mono (by decide) | exact (g__law_strange_asked T).mono (by decide) | exact (g__law_runs T).mono (by decide) | exact (g__law_alike T).mono (by decide) | exact (g__law_looked T).mono (by decide) | exact (g_widest_case T).mono (by decide) | exact (g__law_reach T).mono (by decide) | exact (g_lost_by_bounds T).mono (by decide) | exact (g__law_rule_asked T).mono (by decide) | exact (g__law_pieces T).mono (by decide))
  exact absurd hp List.not_mem_nil
theorem ok_law (L : lawTrue) {f : Addr} {fd : FuncData} (F : Fun K "law" "law" (topS 50) f fd) (T : Txt K mg) : FnOk P w K mg base (L2.CX P w) 12 f fd ["script"] (spLaw K) := by
  obtain ⟨fw, fdw, Fw, bw, mw⟩ := T.t__law_well
  have GW : FnOk P w K mg base (L2.CX P w) 1 fw fdw ["script"] (spWell K) := ok_well Fw (T.z _ (by decide)) (T.z _ (by decide))
  refine F.okX sc_law (fun vs H Q E h => ?_) (fun cdv A outer s H vs Q E hr h => ?_)
  · obtain ⟨a, ns, rfl, _⟩ := h
    rfl
  · obtain ⟨a, ns, rfl, hS, hl, q⟩ := h
    let X : Cx := cxOf (L2.CX P w) P w K mg base n_law "law" (defScope (topS 50)) f cdv A outer s H E
    have O : ∀ Z, XOk X Z (fun cls d _ H => E cls d H) 11 (defScope (topS 50)) := fun Z => ⟨rfl, sc_law.nd, rfl, hr, takes_of rfl rfl rfl rfl, T.z⟩
    have tk : Takes X (fun cls d _ H => E cls d H) := takes_of rfl rfl rfl rfl
    refine ⟨_, pss_cons (ps_set (X := X) (i := 1) sc_law.nd rfl (.inl rfl) (pe_call GW (hr.mono (by decide)) (by rfl) mw Fw.kp bw .nil (L2.passes_call (E := fun _ _ _ => False) tk fun _ _ _ _ h => h.elim) (pa_cons (pv 0) pa_nil)))
      (pss_ex fun i : Addr × Addr => sts_ps (Z := wellZ i.1 i.2) (k := 11) b_law X (fun cls d _ H => E cls d H) ⟨passes_of rfl, rfl, rfl⟩ (O _) (fun _ _ => rfl) ((defBody (topS 50)).drop 1) law_fits ⟨law_calls T, fun p hp => absurd hp List.not_mem_nil⟩ ⟨fun p hp => absurd hp List.not_mem_nil, fun z => absurd rfl z, fun p hp => absurd hp List.not_mem_nil⟩), ?_⟩
    refine ⟨_, rfl, a, ns, rfl, hS, hl, fun H' r c cells stir s1 nr nc ne hw => ?_⟩
    refine ⟨(r, c), (wellZ r c).F, [.no, .val .wel] ++ List.replicate 11 .no, [cells, [0], [stir]], fun _ => [], ?_, ?_⟩
    · have at' : (wellZ r c).At [cells, [0], [stir]] H' := ⟨_, _, _, rfl, hw⟩
      refine ⟨fun a h => h, (wellZ r c).mu at', at', rfl, rfl, fun i s e => ?_, fun _ _ => rfl, fun i j a h => by simp at h, fun i => .nil, fun i a h => by simp at h⟩
      match i, e with
      | 0, e => cases e; exact ⟨_, rfl, .no⟩
      | 1, e => cases e; exact ⟨_, rfl, .val .wel⟩
      | 2, e => cases e; exact ⟨_, rfl, .no⟩
      | 3, e => cases e; exact ⟨_, rfl, .no⟩
      | 4, e => cases e; exact ⟨_, rfl, .no⟩
      | 5, e => cases e; exact ⟨_, rfl, .no⟩
      | 6, e => cases e; exact ⟨_, rfl, .no⟩
      | 7, e => cases e; exact ⟨_, rfl, .no⟩
      | 8, e => cases e; exact ⟨_, rfl, .no⟩
      | 9, e => cases e; exact ⟨_, rfl, .no⟩
      | 10, e => cases e; exact ⟨_, rfl, .no⟩
      | 11, e => cases e; exact ⟨_, rfl, .no⟩
      | 12, e => cases e; exact ⟨_, rfl, .no⟩
      | n + 13, e => simp at e
    · obtain ⟨g', e⟩ := L cells stir ne
      rw [e]
      intro v H2 a2 f2 n2
      cases n2
      exact q H2
end
end K86
set_option Elab.async false
set_option linter.all false
/-! law k86, the plain part: what is heard, how far, cut greedily -/
namespace K86
abbrev T := List Nat
inductive Rl where
  | eld (e : Nat) (t : Bool) (m : Nat)
  | bak (w : Nat) (a t : Bool) (m : Nat)
def Rl.turn : Rl → Bool
  | .eld _ t _ => t
  | .bak _ _ t _ => t
def Rl.most : Rl → Nat
  | .eld _ _ m => m
  | .bak _ _ _ m => m
def Rl.wm (r : Rl) (m : Nat) : Rl := match r with
  | .eld e t _ => .eld e t m
  | .bak w a t _ => .bak w a t m
def Rl.ww (r : Rl) (w : Nat) : Rl := match r with
  | .eld e t m => .eld e t m
  | .bak _ a t m => .bak w a t m
/-! ### beginnings -/
/-- how many of 0, 1, .. one behind the other have p, at most n -/
def pre (p : Nat → Bool) : Nat → Nat
  | 0 => 0
  | n + 1 => if pre p n = n ∧ p n = true then n + 1 else pre p n
theorem le_pre {p : Nat → Bool} : ∀ {n m : Nat}, m ≤ pre p n ↔ m ≤ n ∧ ∀ x, x < m → p x = true
  | 0, m => by
    simp only [pre]
    constructor
    · intro h; exact ⟨h, fun x hx => by omega⟩
    · intro h; exact h.1
  | n + 1, m => by
    have ih := fun k => @le_pre p n k
    simp only [pre]
    split
    · rename_i h
      constructor
      · intro hm
        refine ⟨hm, fun x hx => ?_⟩
        by_cases e : x = n
        · rw [e]; exact h.2
        · exact ((ih n).mp (by omega)).2 x (by omega)
      · intro hm; exact hm.1
    · rename_i h
      constructor
      · intro hm
        have := (ih m).mp hm
        exact ⟨by omega, this.2⟩
      · intro hm
        by_cases e : m ≤ n
        · exact (ih m).mpr ⟨e, hm.2⟩
        · have e' : m = n + 1 := by omega
          subst e'
          exfalso
          apply h
          have h1 : n ≤ pre p n := (ih n).mpr ⟨Nat.le_refl _, fun x hx => hm.2 x (by omega)⟩
          have h2 : pre p n ≤ n := ((ih (pre p n)).mp (Nat.le_refl _)).1
          exact ⟨by omega, hm.2 n (by omega)⟩
theorem pre_le {p : Nat → Bool} {n : Nat} : pre p n ≤ n := (le_pre.mp (Nat.le_refl _)).1
theorem pre_eq {p : Nat → Bool} {n k : Nat} (h : k ≤ n) (h1 : ∀ x, x < k → p x = true) (h2 : k = n ∨ p k = false) : pre p n = k := by
  apply Nat.le_antisymm
  · apply Nat.le_of_not_lt
    intro q
    have := le_pre.mp (show k + 1 ≤ pre p n from q)
    rcases h2 with h2 | h2
    · omega
    · rw [this.2 k (by omega)] at h2; cases h2
  · exact le_pre.mpr ⟨h, h1⟩
/-! ### the greatest -/
def mx (s : Nat) (l : List Nat) : Nat := l.foldl max s
theorem le_mx {m : Nat} : ∀ {l : List Nat} {s : Nat}, m ≤ mx s l ↔ m ≤ s ∨ ∃ a ∈ l, m ≤ a
  | [], s => by simp [mx]
  | b :: l, s => by
    have ih := @le_mx m l (max s b)
    unfold mx at ih ⊢
    rw [List.foldl_cons, ih]
    simp only [List.mem_cons, exists_eq_or_imp]
    constructor
    · rintro (h | h)
      · by_cases q : m ≤ s
        · exact .inl q
        · exact .inr (.inl (by omega))
      · exact .inr (.inr h)
    · rintro (h | h | h)
      · exact .inl (by omega)
      · exact .inl (by omega)
      · exact .inr h
/-! ### what is heard -/
variable (E : List T) (new : T)
def txtOf : Rl → T
  | .eld e _ _ => E.getD e []
  | .bak _ _ _ _ => new
/-- the x-th sign of what begins at first is told by what begins at k -/
def cB (r : Rl) (f k x : Nat) : Bool := match r with
  | .eld e false _ => (E.getD e [])[k + x]? == new[f + x]?
  | .eld e true _ => decide (x ≤ k) && ((E.getD e [])[k - x]? == new[f + x]?)
  | .bak w a false _ => (new[k + x]? == new[f + x]?) && decide (k < f ∧ f ≤ k + w ∧ (a = true → k + x < f))
  | .bak w _ true _ => (decide (x ≤ k) && (new[k - x]? == new[f + x]?)) && decide (k < f ∧ f + 2 * x ≤ k + w)
/-- the longest run from first on -/
def Rn (r : Rl) (f : Nat) : Nat := mx 0 ((List.range (txtOf E new r).length).map fun k => pre (cB E new r f k) (new.length - f))
theorem le_Rn {r : Rl} {f m : Nat} (hm : 0 < m) : m ≤ Rn E new r f ↔ f + m ≤ new.length ∧ ∃ k, k < (txtOf E new r).length ∧ ∀ x, x < m → cB E new r f k x = true := by
  unfold Rn
  rw [le_mx]
  constructor
  · rintro (h | ⟨a, ha, h⟩)
    · omega
    · obtain ⟨k, hk, rfl⟩ := List.mem_map.mp ha
      obtain ⟨h1, h2⟩ := le_pre.mp h
      exact ⟨by omega, k, List.mem_range.mp hk, h2⟩
  · rintro ⟨h1, k, hk, h2⟩
    exact .inr ⟨_, List.mem_map.mpr ⟨k, List.mem_range.mpr hk, rfl⟩, le_pre.mpr ⟨by omega, h2⟩⟩
theorem Rn_le {r : Rl} {f : Nat} : Rn E new r f ≤ new.length - f := by
  by_cases h : 0 < Rn E new r f
  · have := ((le_Rn E new h).mp (Nat.le_refl _)).1
    omega
  · omega
theorem cB_wm {r : Rl} {m f k x : Nat} : cB E new (r.wm m) f k x = cB E new r f k x := by
  cases r with
  | eld e t m' => cases t <;> rfl
  | bak w a t m' => cases t <;> rfl
theorem Rn_wm {r : Rl} {m f : Nat} : Rn E new (r.wm m) f = Rn E new r f := by
  have e : txtOf E new (r.wm m) = txtOf E new r := by cases r <;> rfl
  unfold Rn
  rw [e]
  congr 2
  funext k
  congr 1
  funext x
  exact cB_wm E new
theorem getq_lt {t u : T} {i j : Nat} (h : (t[i]? == u[j]?) = true) (hj : j < u.length) : i < t.length := by
  have h := beq_iff_eq.mp h
  rw [List.getElem?_eq_getElem hj] at h
  exact (List.getElem?_eq_some_iff.mp h).1
/-- one further on, at most one less -/
theorem Rn_step {r : Rl} {f m : Nat} (h : m + 1 ≤ Rn E new r f) : m ≤ Rn E new r (f + 1) := by
  by_cases hm : 0 < m
  · obtain ⟨h1, k, hk, h2⟩ := (le_Rn E new (by omega)).mp h
    refine (le_Rn E new hm).mpr ⟨by omega, ?_⟩
    cases r with
    | eld e t m' =>
      cases t with
      | false =>
        refine ⟨k + 1, ?_, fun x hx => ?_⟩
        · have := h2 1 (by omega)
          exact getq_lt this (by omega)
        · have := h2 (x + 1) (by omega)
          simp only [cB] at this ⊢
          rw [show k + 1 + x = k + (x + 1) by omega, show f + 1 + x = f + (x + 1) by omega]
          exact this
      | true =>
        refine ⟨k - 1, by omega, fun x hx => ?_⟩
        have := h2 (x + 1) (by omega)
        simp only [cB, Bool.and_eq_true, decide_eq_true_eq] at this ⊢
        rw [show k - 1 - x = k - (x + 1) by omega, show f + 1 + x = f + (x + 1) by omega]
        exact ⟨by omega, this.2⟩
    | bak w a t m' =>
      cases t with
      | false =>
        have h3 := h2 1 (by omega)
        simp only [cB, Bool.and_eq_true, decide_eq_true_eq] at h3
        refine ⟨k + 1, getq_lt h3.1 (by omega), fun x hx => ?_⟩
        have := h2 (x + 1) (by omega)
        simp only [cB, Bool.and_eq_true, decide_eq_true_eq] at this ⊢
        rw [show k + 1 + x = k + (x + 1) by omega, show f + 1 + x = f + (x + 1) by omega]
        exact ⟨this.1, by omega, by omega, fun z => by have := this.2.2.2 z; omega⟩
      | true =>
        refine ⟨k - 1, by omega, fun x hx => ?_⟩
        have := h2 (x + 1) (by omega)
        simp only [cB, Bool.and_eq_true, decide_eq_true_eq] at this ⊢
        rw [show k - 1 - x = k - (x + 1) by omega, show f + 1 + x = f + (x + 1) by omega]
        exact ⟨⟨by omega, this.1.2⟩, by omega, by omega⟩
  · omega
/-- wider hears more -/
theorem Rn_wide {r : Rl} {w w' f : Nat} (h : w ≤ w') : Rn E new (r.ww w) f ≤ Rn E new (r.ww w') f := by
  by_cases hm : 0 < Rn E new (r.ww w) f
  · obtain ⟨h1, k, hk, h2⟩ := (le_Rn E new hm).mp (Nat.le_refl _)
    refine (le_Rn E new hm).mpr ⟨h1, k, ?_, fun x hx => ?_⟩
    · cases r <;> exact hk
    · have := h2 x hx
      cases r with
      | eld e t m => exact this
      | bak w0 a t m =>
        cases t with
        | false =>
          simp only [Rl.ww, cB, Bool.and_eq_true, decide_eq_true_eq] at this ⊢
          exact ⟨this.1, this.2.1, by omega, this.2.2.2⟩
        | true =>
          simp only [Rl.ww, cB, Bool.and_eq_true, decide_eq_true_eq] at this ⊢
          exact ⟨this.1, this.2.1, by omega⟩
  · omega
/-- wider than all is no wider -/
theorem Rn_all {r : Rl} {w w' f : Nat} (h : new.length ≤ w) : Rn E new (r.ww w') f ≤ Rn E new (r.ww w) f := by
  by_cases hm : 0 < Rn E new (r.ww w') f
  · obtain ⟨h1, k, hk, h2⟩ := (le_Rn E new hm).mp (Nat.le_refl _)
    refine (le_Rn E new hm).mpr ⟨h1, k, ?_, fun x hx => ?_⟩
    · cases r <;> exact hk
    · have := h2 x hx
      cases r with
      | eld e t m => exact this
      | bak w0 a t m =>
        cases t with
        | false =>
          simp only [Rl.ww, cB, Bool.and_eq_true, decide_eq_true_eq] at this ⊢
          exact ⟨this.1, this.2.1, by omega, this.2.2.2⟩
        | true =>
          simp only [Rl.ww, cB, Bool.and_eq_true, decide_eq_true_eq] at this ⊢
          exact ⟨this.1, this.2.1, by omega⟩
  · omega
/-! ### how far -/
/-- the longest piece from first on -/
def Lo (rs : List Rl) (f : Nat) : Nat := mx 1 (rs.map fun r => min (Rn E new r f) r.most)
theorem Lo_pos {rs : List Rl} {f : Nat} : 1 ≤ Lo E new rs f := le_mx.mpr (.inl (Nat.le_refl _))
theorem le_Lo {rs : List Rl} {f m : Nat} : m ≤ Lo E new rs f ↔ m ≤ 1 ∨ ∃ r ∈ rs, m ≤ r.most ∧ m ≤ Rn E new r f := by
  unfold Lo
  rw [le_mx]
  constructor
  · rintro (h | ⟨a, ha, h⟩)
    · exact .inl h
    · obtain ⟨r, hr, rfl⟩ := List.mem_map.mp ha
      exact .inr ⟨r, hr, by omega, by omega⟩
  · rintro (h | ⟨r, hr, h⟩)
    · exact .inl h
    · exact .inr ⟨_, List.mem_map.mpr ⟨r, hr, rfl⟩, by omega⟩
theorem Lo_le {rs : List Rl} {f : Nat} (h : f < new.length) : f + Lo E new rs f ≤ new.length := by
  rcases (le_Lo E new).mp (Nat.le_refl (Lo E new rs f)) with q | ⟨r, hr, q1, q2⟩
  · omega
  · have := Rn_le E new (r := r) (f := f)
    omega
theorem Lo_step {rs : List Rl} {f : Nat} : f + Lo E new rs f ≤ f + 1 + Lo E new rs (f + 1) := by
  have h := Nat.le_refl (Lo E new rs f)
  rcases (le_Lo E new).mp h with q | ⟨r, hr, q1, q2⟩
  · omega
  · have : Lo E new rs f - 1 ≤ Lo E new rs (f + 1) := by
      by_cases z : Lo E new rs f = 0
      · omega
      · exact (le_Lo E new).mpr (.inr ⟨r, hr, by omega, Rn_step E new (by omega)⟩)
    omega
/-- where a piece from first on may end at most -/
def Re (rs : List Rl) (f : Nat) : Nat := f + Lo E new rs f
theorem Re_mono {rs : List Rl} {f g : Nat} (h : f ≤ g) : Re E new rs f ≤ Re E new rs g := by
  induction g with
  | zero => have : f = 0 := by omega
            rw [this]; exact Nat.le_refl _
  | succ g ih =>
    by_cases e : f = g + 1
    · rw [e]; exact Nat.le_refl _
    · exact Nat.le_trans (ih (by omega)) (Lo_step E new)
/-! ### cut greedily -/
end K86
namespace K86
def gr (rc : Nat → Nat) (n : Nat) : Nat → Nat → List Nat
  | 0, _ => []
  | k + 1, p => if p < n ∧ rc p < n then rc p :: gr rc n k (rc p) else []
def lc (rc : Nat → Nat) (n : Nat) : Nat → Nat → List Nat
  | 0, _ => []
  | k + 1, p => if p < n then rc p :: lc rc n k (rc p) else []
theorem lc_gr {rc : Nat → Nat} {n : Nat} (h : ∀ p, p < n → p < rc p ∧ rc p ≤ n) : ∀ k p, p < n → n ≤ p + k → lc rc n k p = gr rc n k p ++ [n]
  | 0, p, h1, h2 => by omega
  | k + 1, p, h1, h2 => by
    obtain ⟨h3, h4⟩ := h p h1
    unfold lc gr
    rw [if_pos h1]
    by_cases e : rc p < n
    · rw [if_pos ⟨h1, e⟩, lc_gr h k (rc p) e (by omega)]
      rfl
    · rw [if_neg (fun z => e z.2)]
      have : rc p = n := by omega
      rw [this]
      cases k with
      | zero => rfl
      | succ k => unfold lc; rw [if_neg (by omega)]; rfl
theorem gr_more {rc : Nat → Nat} {n : Nat} (h : ∀ p, p < n → p < rc p) : ∀ k k' p, n ≤ p + k → n ≤ p + k' → gr rc n k p = gr rc n k' p
  | 0, k', p, h1, h2 => by
    cases k' with
    | zero => rfl
    | succ k' => unfold gr; rw [if_neg (by omega)]
  | k + 1, 0, p, h1, h2 => by unfold gr; rw [if_neg (by omega)]
  | k + 1, k' + 1, p, h1, h2 => by
    unfold gr
    by_cases e : p < n ∧ rc p < n
    · rw [if_pos e, if_pos e, gr_more h k k' (rc p) (by have := h p e.1; omega) (by have := h p e.1; omega)]
    · rw [if_neg e, if_neg e]
/-- further at each place: no more cuts -/
theorem gr_mono {rc rc' : Nat → Nat} {n : Nat} (h : ∀ p, p < n → rc p ≤ rc' p) (mono : ∀ p q, p ≤ q → rc p ≤ rc q) : ∀ k p p', p ≤ p' → (gr rc' n k p').length ≤ (gr rc n k p).length
  | 0, p, p', hp => by simp [gr]
  | k + 1, p, p', hp => by
    unfold gr
    by_cases e : p' < n ∧ rc' p' < n
    · have h1 := mono p p' hp
      have h2 := h p' e.1
      rw [if_pos e, if_pos ⟨by omega, by omega⟩]
      have := gr_mono h mono k (rc p) (rc' p') (by omega)
      simp; omega
    · rw [if_neg e]; simp
/-- how many pieces -/
def pcs (rc : Nat → Nat) (n : Nat) : Nat := if n = 0 then 0 else (gr rc n n 0).length + 1
theorem pcs_mono {rc rc' : Nat → Nat} {n : Nat} (h : ∀ p, p < n → rc p ≤ rc' p) (mono : ∀ p q, p ≤ q → rc p ≤ rc q) : pcs rc' n ≤ pcs rc n := by
  unfold pcs
  split
  · exact Nat.le_refl _
  · have := gr_mono h mono n 0 0 (Nat.le_refl _)
    omega
theorem gr_congr {rc rc' : Nat → Nat} {n : Nat} (h : ∀ p, p < n → rc p = rc' p) : ∀ k p, gr rc n k p = gr rc' n k p
  | 0, p => rfl
  | k + 1, p => by
    unfold gr
    by_cases e : p < n
    · rw [← h p e]
      by_cases e2 : rc p < n
      · rw [if_pos ⟨e, e2⟩, if_pos ⟨e, e2⟩, gr_congr h k]
      · rw [if_neg (fun z => e2 z.2), if_neg (fun z => e2 z.2)]
    · rw [if_neg (fun z => e z.1), if_neg (fun z => e z.1)]
theorem pcs_congr {rc rc' : Nat → Nat} {n : Nat} (h : ∀ p, p < n → rc p = rc' p) : pcs rc n = pcs rc' n := by
  unfold pcs; rw [gr_congr h]
/-- the least with p, from lo on; p holds at hi -/
def lea (p : Nat → Bool) (lo : Nat) : Nat → Nat
  | 0 => lo
  | k + 1 => if p lo = true then lo else lea p (lo + 1) k
theorem lea_spec {p : Nat → Bool} : ∀ {k lo : Nat}, p (lo + k) = true → p (lea p lo k) = true ∧ lo ≤ lea p lo k ∧ lea p lo k ≤ lo + k ∧ ∀ x, lo ≤ x → x < lea p lo k → p x = false
  | 0, lo, h => ⟨h, Nat.le_refl _, Nat.le_refl _, fun x h1 h2 => by simp only [lea] at h2; omega⟩
  | k + 1, lo, h => by
    unfold lea
    by_cases e : p lo = true
    · rw [if_pos e]
      exact ⟨e, Nat.le_refl _, by omega, fun x h1 h2 => by omega⟩
    · rw [if_neg e]
      obtain ⟨h1, h2, h3, h4⟩ := @lea_spec p k (lo + 1) (by rw [show lo + 1 + k = lo + (k + 1) by omega]; exact h)
      refine ⟨h1, by omega, by omega, fun x h5 h6 => ?_⟩
      by_cases z : x = lo
      · rw [z]; simpa using e
      · exact h4 x (by omega) h6
theorem lea_uq {p : Nat → Bool} {lo a b : Nat} (ha : p a = true) (hb : p b = true) (la : lo ≤ a) (lb : lo ≤ b) (ma : ∀ x, lo ≤ x → x < a → p x = false) (mb : ∀ x, lo ≤ x → x < b → p x = false) : a = b := by
  rcases Nat.lt_trichotomy a b with h | h | h
  · rw [mb a la h] at ha; cases ha
  · exact h
  · rw [ma b lb h] at hb; cases hb
end K86
set_option Elab.async false
set_option linter.all false
/-! law k86: what the program asks of a stretch, and the runs -/
namespace K86
open TI
theorem sl_iff {t u : T} {k f m : Nat} (h : f + m ≤ u.length) : (t.drop k).take m = (u.drop f).take m ↔ ∀ x, x < m → t[k + x]? = u[f + x]? := by
  constructor
  · intro e x hx
    have := congrArg (fun l : T => l[x]?) e
    simpa [List.getElem?_take, List.getElem?_drop, hx] using this
  · intro e
    apply List.ext_getElem?
    intro x
    by_cases hx : x < m
    · simp [List.getElem?_take, List.getElem?_drop, hx, e x hx]
    · simp [List.getElem?_take, hx]
theorem rv_iff {t u : T} {k f m : Nat} (h : f + m ≤ u.length) : (t.drop k).take m = ((u.drop f).take m).reverse ↔ ∀ x, x < m → t[k + (m - 1 - x)]? = u[f + x]? := by
  have hl : ((u.drop f).take m).length = m := by simp; omega
  constructor
  · intro e x hx
    have := congrArg (fun l : T => l[m - 1 - x]?) e
    rw [List.getElem?_reverse (by rw [hl]; omega), hl] at this
    simp only [List.getElem?_take, List.getElem?_drop] at this
    rw [if_pos (by omega), if_pos (by omega)] at this
    rw [this, show m - 1 - (m - 1 - x) = x by omega]
  · intro e
    apply List.ext_getElem?
    intro x
    by_cases hx : x < m
    · rw [List.getElem?_reverse (by rw [hl]; omega), hl]
      simp only [List.getElem?_take, List.getElem?_drop]
      rw [if_pos hx, if_pos (by omega), ← e (m - 1 - x) (by omega), show m - 1 - (m - 1 - x) = x by omega]
    · rw [List.getElem?_eq_none (by simp; omega), List.getElem?_eq_none (by simp; omega)]
theorem has_iff {b : T} : ∀ {a : T}, hasSub b a = true ↔ ∃ k, k ≤ a.length ∧ (a.drop k).take b.length = b
  | [] => by
    simp only [hasSub]
    constructor
    · intro h
      have : b = [] := by simpa using h
      subst this
      exact ⟨0, by simp, rfl⟩
    · rintro ⟨k, hk, e⟩
      have : b = [] := by simpa using e.symm
      simp [this]
  | c :: a => by
    simp only [hasSub, Bool.or_eq_true]
    rw [has_iff (a := a), List.isPrefixOf_iff_prefix, List.prefix_iff_eq_take]
    constructor
    · rintro (h | ⟨k, hk, e⟩)
      · exact ⟨0, by simp, by simpa using h.symm⟩
      · exact ⟨k + 1, by simpa using hk, by simpa using e⟩
    · rintro ⟨k, hk, e⟩
      cases k with
      | zero => exact .inl (by simpa using e.symm)
      | succ k => exact .inr ⟨k, by simpa using hk, by simpa using e⟩
variable (E : List T) (new : T)
/-- the stretch, turned by a turning rule -/
def par (r : Rl) (f m : Nat) : T := if r.turn = true then ((new.drop f).take m).reverse else (new.drop f).take m
def okK (r : Rl) (f m k : Nat) : Bool := match r with
  | .eld _ _ _ => false
  | .bak w a t _ => decide ((if t = true then f + (m - 1) ≤ k + w else f ≤ k + w) ∧ if t = true ∨ a = true then k + m ≤ f else k < f) && ((new.drop k).take m == par new r f m)
def hB (r : Rl) (f m : Nat) : Bool := match r with
  | .eld e _ _ => hasSub (par new r f m) (E.getD e [])
  | .bak _ _ _ _ => (List.range f).any fun k => okK new r f m k
theorem hB_iff {r : Rl} {f m : Nat} (hm : 1 ≤ m) (hf : f + m ≤ new.length) : hB E new r f m = true ↔ m ≤ Rn E new r f := by
  have hpl : (par new r f m).length = m := by
    unfold par
    split <;> simp <;> omega
  rw [le_Rn E new hm]
  cases r with
  | eld e t mm =>
    cases t with
    | false =>
      simp only [hB, has_iff, hpl]
      constructor
      · rintro ⟨k, hk, q⟩
        have q : ((E.getD e []).drop k).take m = (new.drop f).take m := q
        rw [sl_iff hf] at q
        refine ⟨hf, k, ?_, fun x hx => beq_iff_eq.mpr (q x hx)⟩
        have := q 0 (by omega)
        rw [List.getElem?_eq_getElem (show f + 0 < new.length by omega)] at this
        exact (List.getElem?_eq_some_iff.mp this).1
      · rintro ⟨_, k, hk, q⟩
        have hk : k < (E.getD e []).length := hk
        refine ⟨k, by omega, ?_⟩
        show ((E.getD e []).drop k).take m = (new.drop f).take m
        rw [sl_iff hf]
        exact fun x hx => beq_iff_eq.mp (q x hx)
    | true =>
      simp only [hB, has_iff, hpl]
      constructor
      · rintro ⟨k, hk, q⟩
        have q : ((E.getD e []).drop k).take m = ((new.drop f).take m).reverse := q
        rw [rv_iff hf] at q
        have q0 := q 0 (by omega)
        rw [List.getElem?_eq_getElem (show f + 0 < new.length by omega)] at q0
        refine ⟨hf, k + (m - 1), ?_, fun x hx => ?_⟩
        · have := (List.getElem?_eq_some_iff.mp q0).1
          show k + (m - 1) < (E.getD e []).length
          omega
        · simp only [cB, Bool.and_eq_true, decide_eq_true_eq]
          refine ⟨by omega, beq_iff_eq.mpr ?_⟩
          rw [← q x hx, show k + (m - 1) - x = k + (m - 1 - x) by omega]
      · rintro ⟨_, k, hk, q⟩
        have hk : k < (E.getD e []).length := hk
        have q1 := q (m - 1) (by omega)
        simp only [cB, Bool.and_eq_true, decide_eq_true_eq] at q1
        refine ⟨k - (m - 1), by omega, ?_⟩
        show ((E.getD e []).drop (k - (m - 1))).take m = ((new.drop f).take m).reverse
        rw [rv_iff hf]
        intro x hx
        have := q x hx
        simp only [cB, Bool.and_eq_true, decide_eq_true_eq] at this
        rw [← beq_iff_eq.mp this.2, show k - (m - 1) + (m - 1 - x) = k - x by omega]
  | bak w a t mm =>
    cases t with
    | false =>
      simp only [hB, List.any_eq_true, List.mem_range, okK, Bool.and_eq_true, decide_eq_true_eq, beq_iff_eq, Bool.false_eq_true, if_false, false_or]
      constructor
      · rintro ⟨k, hk, ⟨h1, h2⟩, q⟩
        have q : (new.drop k).take m = (new.drop f).take m := q
        rw [sl_iff hf] at q
        refine ⟨hf, k, by show k < new.length; omega, fun x hx => ?_⟩
        simp only [cB, Bool.and_eq_true, decide_eq_true_eq]
        refine ⟨beq_iff_eq.mpr (q x hx), hk, h1, fun z => ?_⟩
        rw [if_pos z] at h2
        omega
      · rintro ⟨_, k, hk, q⟩
        have q0 := q (m - 1) (by omega)
        simp only [cB, Bool.and_eq_true, decide_eq_true_eq] at q0
        refine ⟨k, q0.2.1, ⟨q0.2.2.1, ?_⟩, ?_⟩
        · split
          · rename_i z
            have := q0.2.2.2 z
            omega
          · exact q0.2.1
        · show (new.drop k).take m = (new.drop f).take m
          rw [sl_iff hf]
          intro x hx
          have := q x hx
          simp only [cB, Bool.and_eq_true, decide_eq_true_eq] at this
          exact beq_iff_eq.mp this.1
    | true =>
      simp only [hB, List.any_eq_true, List.mem_range, okK, Bool.and_eq_true, decide_eq_true_eq, beq_iff_eq, if_true, true_or]
      constructor
      · rintro ⟨k, hk, ⟨h1, h2⟩, q⟩
        have q : (new.drop k).take m = ((new.drop f).take m).reverse := q
        rw [rv_iff hf] at q
        refine ⟨hf, k + (m - 1), by show k + (m - 1) < new.length; omega, fun x hx => ?_⟩
        simp only [cB, Bool.and_eq_true, decide_eq_true_eq]
        refine ⟨⟨by omega, beq_iff_eq.mpr ?_⟩, by omega, by omega⟩
        rw [← q x hx, show k + (m - 1) - x = k + (m - 1 - x) by omega]
      · rintro ⟨_, k, hk, q⟩
        have q0 := q (m - 1) (by omega)
        simp only [cB, Bool.and_eq_true, decide_eq_true_eq] at q0
        refine ⟨k - (m - 1), by omega, ⟨by omega, by omega⟩, ?_⟩
        show (new.drop (k - (m - 1))).take m = ((new.drop f).take m).reverse
        rw [rv_iff hf]
        intro x hx
        have := q x hx
        simp only [cB, Bool.and_eq_true, decide_eq_true_eq] at this
        rw [← beq_iff_eq.mp this.1.2, show k - (m - 1) + (m - 1 - x) = k - x by omega]
/-- a stretch is heard by one of the rules -/
def isH (rs : List Rl) (f m : Nat) : Bool := m == 1 || rs.any fun r => decide (m ≤ r.most) && hB E new r f m
theorem isH_iff {rs : List Rl} {f m : Nat} (hm : 1 ≤ m) (hf : f + m ≤ new.length) : isH E new rs f m = true ↔ m ≤ Lo E new rs f := by
  rw [le_Lo]
  simp only [isH, Bool.or_eq_true, List.any_eq_true, Bool.and_eq_true, decide_eq_true_eq, beq_iff_eq]
  constructor
  · rintro (h | ⟨r, hr, h1, h2⟩)
    · exact .inl (by omega)
    · exact .inr ⟨r, hr, h1, (hB_iff E new hm hf).mp h2⟩
  · rintro (h | ⟨r, hr, h1, h2⟩)
    · exact .inl (by omega)
    · exact .inr ⟨r, hr, h1, (hB_iff E new hm hf).mpr h2⟩
end K86
set_option Elab.async false
set_option linter.all false
set_option maxRecDepth 100000
set_option maxHeartbeats 1000000
/-! what the defs of law k86 reckon: the case, is_number .. is_turning -/
namespace TI
open L2
theorem lineV : line = 16777216 := rfl
theorem rng_two {i j : Int} (h : i ≤ line) (h0 : -4611686018427387904 ≤ i) (h1 : j ≤ line) (h2 : -4611686018427387904 ≤ j) : rngOf [.int i, .int j] = pure ((List.range (j - i).toNat).map fun k : Nat => D.int (i + k)) := by
  show grd (smallB i && smallB j) (pure (rngD i 1 (j - i).toNat)) = _
  rw [rngD_eq, grd_true]
  · simp
  · unfold smallB line at *
    simp; omega
theorem at4 {a b c d : D} : atI [a, b, c, d] (-1) = some d := rfl
theorem at5 {a b c d e : D} : atI [a, b, c, d, e] (-1) = some e := rfl
theorem at4' {a b c d : D} : atI [a, b, c, d] (-2) = some c := rfl
theorem at5' {a b c d e : D} : atI [a, b, c, d, e] (-2) = some d := rfl
theorem at_0 {a : D} {l : List D} : atI (a :: l) 0 = some a := by
  have := atI_n (xs := a :: l) (j := 0) (by simp)
  simpa using this
theorem at_1 {a b : D} {l : List D} : atI (a :: b :: l) 1 = some b := by
  have := atI_n (xs := a :: b :: l) (j := 1) (by simp)
  simpa using this
theorem at_2 {a b c : D} {l : List D} : atI (a :: b :: c :: l) 2 = some c := by
  have := atI_n (xs := a :: b :: c :: l) (j := 2) (by simp)
  simpa using this
theorem at_3 {a b c d : D} {l : List D} : atI (a :: b :: c :: d :: l) 3 = some d := by
  have := atI_n (xs := a :: b :: c :: d :: l) (j := 3) (by simp)
  simpa using this
theorem at_4 {a b c d e : D} {l : List D} : atI (a :: b :: c :: d :: e :: l) 4 = some e := by
  have := atI_n (xs := a :: b :: c :: d :: e :: l) (j := 4) (by simp)
  simpa using this
end TI
namespace TI
theorem sts_ex {α : Type} {s : St} {ss : Sts} {ρ ρ' : List Sl} {f : Out → M α} {r : M α} (e : Er) (h : exS s ρ = pure (.ex e ρ')) (k : f (.ex e ρ') = r) : (exSs (.cons s ss) ρ >>= f) = r := by
  rw [exSs_cons, h]; exact k
end TI
namespace K86
open L2 TI
theorem nEB : ¬ ("elder" : PySem.Str).cps = ("back" : PySem.Str).cps := by decide
theorem nBE : ¬ ("back" : PySem.Str).cps = ("elder" : PySem.Str).cps := by decide
abbrev sE : List Nat := ("elder" : PySem.Str).cps.toList
abbrev sB : List Nat := ("back" : PySem.Str).cps.toList
theorem sE_sE : (("elder" : PySem.Str).cps.toList == ("elder" : PySem.Str).cps.toList) = true := by simp
theorem sB_sE : (("back" : PySem.Str).cps.toList == ("elder" : PySem.Str).cps.toList) = false := by decide
theorem sE_sB : (("elder" : PySem.Str).cps.toList == ("back" : PySem.Str).cps.toList) = false := by decide
theorem sB_sB : (("back" : PySem.Str).cps.toList == ("back" : PySem.Str).cps.toList) = true := by simp
def Rl.d : Rl → D
  | .eld e t m => .tup [.str ("elder" : PySem.Str).cps.toList, .int e, .bl t, .int m]
  | .bak w a t m => .tup [.str ("back" : PySem.Str).cps.toList, .int w, .bl a, .bl t, .int m]
def caseD (E : List T) (rs : List Rl) (new : T) : D := .tup [.tup (E.map D.str), .tup (rs.map Rl.d), .str new]
def RO (E : List T) : Rl → Prop
  | .eld e _ m => e < E.length ∧ (m ≤ 1000 ∧ 2 ≤ m)
  | .bak w _ _ m => w ≤ 1000 ∧ (m ≤ 1000 ∧ (1 ≤ w ∧ 2 ≤ m))
structure CO (E : List T) (rs : List Rl) (new : T) : Prop where
  n : new.length ≤ 1000
  t : ∀ u ∈ E, u.length ≤ 1000
  e : E.length ≤ 1000
  r : rs.length ≤ 1000
  o : ∀ r ∈ rs, RO E r
theorem r_is_number (i : Int) : s_is_number [.int i] = pure (.bl true) := by
  have hL := lineV
  unfold s_is_number f_is_number
  rw [run_eq rfl]
  simp (disch := first | assumption | omega) [isTy, tyOk]
theorem r_check_stretch (t : T) (a b : Nat) (h : a < b) (hb : b ≤ t.length) (ht : t.length ≤ 1000) : s_check_stretch [.str t, .tup [.int a, .int b]] = pure (.int ((b - a : Nat) : Int)) := by
  have hL := lineV
  rw [show ((b - a : Nat) : Int) = (b : Int) - a by omega]
  unfold s_check_stretch f_check_stretch
  refine run_go rfl ?_
  refine sts_nx [.val (.str t), .val (.tup [.int a, .int b])] (by simp (disch := first | assumption | omega) [isTy, tyOk]) ?_
  refine sts_nx [.val (.str t), .val (.tup [.int a, .int b])] (by simp (disch := first | assumption | omega) [at_0, at_1, r_is_number]) ?_
  refine sts_nx [.val (.str t), .val (.tup [.int a, .int b])] (by simp (disch := first | assumption | omega) [at_0, at_1, h, hb]) ?_
  refine sts_rt (.int ((b : Int) - a)) ?_ rfl
  simp (disch := first | assumption | omega) [at_0, at_1]
theorem r_is_turning (r : Rl) : s_is_turning [r.d] = pure (.bl r.turn) := by
  unfold s_is_turning f_is_turning
  rw [run_eq rfl]
  cases r <;> simp [Rl.d, at4', at5', Rl.turn]
theorem case_0 {E : List T} {rs : List Rl} {new : T} : subD (caseD E rs new) (.int 0) = pure (.tup (E.map D.str)) := by simp [caseD, at_0]
theorem case_1 {E : List T} {rs : List Rl} {new : T} : subD (caseD E rs new) (.int 1) = pure (.tup (rs.map Rl.d)) := by simp [caseD, at_1]
theorem case_2 {E : List T} {rs : List Rl} {new : T} : subD (caseD E rs new) (.int 2) = pure (.str new) := by simp [caseD, at_2]
end K86
set_option Elab.async false
set_option linter.all false
set_option maxRecDepth 100000
set_option maxHeartbeats 1000000
/-! law k86: what is heard, the reach, the greedy cuts, as the program reckons them -/
namespace K86
open L2 TI
theorem r_heard_by {E : List T} {rs : List Rl} {new : T} (C : CO E rs new) (k f m : Nat) (hk : k < rs.length) (hm : 1 ≤ m) (hf : f + m ≤ new.length) :
    s__heard_by [caseD E rs new, .int k, .int f, .int m] = pure (.bl (decide (m ≤ rs[k].most) && hB E new rs[k] f m)) := by
  have hL := lineV
  have hn := C.n
  have ho := C.o rs[k] (List.getElem_mem hk)
  unfold s__heard_by f__heard_by
  refine run_go rfl ?_
  refine sts_nx [.val (caseD E rs new), .val (.int k), .val (.int f), .val (.int m), .val (.tup (E.map D.str)), .val (.tup (rs.map Rl.d)), .val (.str new), .no, .no, .no, .no, .no] (by simp [caseD]) ?_
  refine sts_nx [.val (caseD E rs new), .val (.int k), .val (.int f), .val (.int m), .val (.tup (E.map D.str)), .val (.tup (rs.map Rl.d)), .val (.str new), .val (rs[k]).d, .no, .no, .no, .no] (by simp [atI_n, hk]) ?_
  generalize rs[k] = r at ho ⊢
  by_cases hmost : m ≤ r.most
  · rw [decide_eq_true hmost, Bool.true_and]
    refine sts_nx [.val (caseD E rs new), .val (.int k), .val (.int f), .val (.int m), .val (.tup (E.map D.str)), .val (.tup (rs.map Rl.d)), .val (.str new), .val r.d, .no, .no, .no, .no] ?_ ?_
    · cases r <;> simp [Rl.d, at4, at5, Rl.most] at hmost ⊢ <;> omega
    refine sts_nx [.val (caseD E rs new), .val (.int k), .val (.int f), .val (.int m), .val (.tup (E.map D.str)), .val (.tup (rs.map Rl.d)), .val (.str new), .val r.d, .val (.str ((new.drop f).take m)), .no, .no, .no] (by simp (disch := first | assumption | omega) [cutL_part]) ?_
    refine sts_nx [.val (caseD E rs new), .val (.int k), .val (.int f), .val (.int m), .val (.tup (E.map D.str)), .val (.tup (rs.map Rl.d)), .val (.str new), .val r.d, .val (.str (par new r f m)), .no, .no, .no] ?_ ?_
    · have hl : ((new.drop f).take m).length ≤ line := by simp; omega
      by_cases ht : r.turn = true
      · simp [r_is_turning, ht, rvD_str hl, par]
      · simp only [Bool.not_eq_true] at ht
        simp [r_is_turning, ht, par]
    cases r with
    | eld e t mm =>
      refine sts_rt (.bl (hB E new (.eld e t mm) f m)) ?_ rfl
      have he : e < E.length := ho.1
      simp [Rl.d, at_0, at_1, sE_sE, atI_n, he, inD, hB]
    | bak w a t mm =>
      obtain ⟨hw, hmm, _⟩ : w ≤ 1000 ∧ (mm ≤ 1000 ∧ (1 ≤ w ∧ 2 ≤ mm)) := ho
      refine sts_nx _ (by simp [Rl.d, at_0, sB_sE]; rfl) ?_
      refine sts_nx [.val (caseD E rs new), .val (.int k), .val (.int f), .val (.int m), .val (.tup (E.map D.str)), .val (.tup (rs.map Rl.d)), .val (.str new), .val (Rl.bak w a t mm).d, .val (.str (par new (.bak w a t mm) f m)), .val (.int ((f : Int) - w)), .no, .no] (by simp [Rl.d, at_1]) ?_
      refine sts_nx [.val (caseD E rs new), .val (.int k), .val (.int f), .val (.int m), .val (.tup (E.map D.str)), .val (.tup (rs.map Rl.d)), .val (.str new), .val (Rl.bak w a t mm).d, .val (.str (par new (.bak w a t mm) f m)), .val (.int ((f : Int) - w)), .val (.int ((f : Int) - 1)), .no] (by simp) ?_
      obtain ⟨lo, elo⟩ : ∃ lo : Int, lo = if t = true then (f : Int) - w + m - 1 else (f : Int) - w := ⟨_, rfl⟩
      obtain ⟨hi, ehi⟩ : ∃ hi : Int, hi = if t = true ∨ a = true then (f : Int) - m else (f : Int) - 1 := ⟨_, rfl⟩
      refine sts_nx [.val (caseD E rs new), .val (.int k), .val (.int f), .val (.int m), .val (.tup (E.map D.str)), .val (.tup (rs.map Rl.d)), .val (.str new), .val (Rl.bak w a t mm).d, .val (.str (par new (.bak w a t mm) f m)), .val (.int lo), .val (.int ((f : Int) - 1)), .no] ?_ ?_
      · have ht' := r_is_turning (.bak w a t mm)
        cases t <;> simp [ht', Rl.turn, elo]
      refine sts_nx [.val (caseD E rs new), .val (.int k), .val (.int f), .val (.int m), .val (.tup (E.map D.str)), .val (.tup (rs.map Rl.d)), .val (.str new), .val (Rl.bak w a t mm).d, .val (.str (par new (.bak w a t mm) f m)), .val (.int lo), .val (.int hi), .no] ?_ ?_
      · have ht' : s_is_turning [.tup [.str ("back" : PySem.Str).cps.toList, .int w, .bl a, .bl t, .int mm]] = pure (.bl t) := r_is_turning (.bak w a t mm)
        cases t <;> cases a <;> simp [ht', ehi, Rl.d, at_2]
      obtain ⟨L0, eL0⟩ : ∃ L0 : Nat, L0 = lo.toNat := ⟨_, rfl⟩
      have eL : (if lo > 0 then lo else 0) = ((L0 : Nat) : Int) := by split <;> omega
      have blo : lo ≤ 2000 := by split at elo <;> omega
      have bhi : hi ≤ 1000 ∧ -1000 ≤ hi := by split at ehi <;> omega
      have key : hB E new (.bak w a t mm) f m = true ↔ ∃ j, j < (hi + 1 - L0).toNat ∧ (new.drop (L0 + j)).take m = par new (.bak w a t mm) f m := by
        simp only [hB, List.any_eq_true, List.mem_range, okK, Bool.and_eq_true, decide_eq_true_eq, beq_iff_eq]
        constructor
        · rintro ⟨x, hx, ⟨h1, h2⟩, h3⟩
          have hlo : lo ≤ x := by
            rw [elo]
            split
            · rename_i z; rw [if_pos z] at h1; omega
            · rename_i z; rw [if_neg z] at h1; omega
          have hhi : (x : Int) ≤ hi := by
            rw [ehi]
            split
            · rename_i z; rw [if_pos z] at h2; omega
            · rename_i z; rw [if_neg z] at h2; omega
          refine ⟨x - L0, by omega, ?_⟩
          rw [show L0 + (x - L0) = x by omega]
          exact h3
        · rintro ⟨j, hj, h3⟩
          have hhi : ((L0 + j : Nat) : Int) ≤ hi := by omega
          have hlo : lo ≤ ((L0 + j : Nat) : Int) := by omega
          refine ⟨L0 + j, ?_, ⟨?_, ?_⟩, h3⟩
          · rw [ehi] at hhi
            split at hhi <;> omega
          · rw [elo] at hlo
            split
            · rename_i z; rw [if_pos z] at hlo; omega
            · rename_i z; rw [if_neg z] at hlo; omega
          · rw [ehi] at hhi
            split
            · rename_i z; rw [if_pos z] at hhi; omega
            · rename_i z; rw [if_neg z] at hhi; omega
      refine sts_forx (ds := (List.range (hi + 1 - L0).toNat).map fun j : Nat => D.int (L0 + j)) [.val (caseD E rs new), .val (.int k), .val (.int f), .val (.int m), .val (.tup (E.map D.str)), .val (.tup (rs.map Rl.d)), .val (.str new), .val (Rl.bak w a t mm).d, .val (.str (par new (.bak w a t mm) f m)), .val (.int lo), .val (.int hi), .no] ?_ rfl
        (fun i ρ => ∃ x, ρ = [.val (caseD E rs new), .val (.int k), .val (.int f), .val (.int m), .val (.tup (E.map D.str)), .val (.tup (rs.map Rl.d)), .val (.str new), .val (Rl.bak w a t mm).d, .val (.str (par new (.bak w a t mm) f m)), .val (.int lo), .val (.int hi), x] ∧ ∀ j, j < i → ¬ (new.drop (L0 + j)).take m = par new (.bak w a t mm) f m)
        (fun u => u = .rt (.bl true) ∧ ∃ j, j < (hi + 1 - L0).toNat ∧ (new.drop (L0 + j)).take m = par new (.bak w a t mm) f m) ⟨.no, rfl, fun j hj => by omega⟩ ?_ ?_
      · simp only [evIt_rng, evs_cons, evs_nil]
        have e2 := rng_two (i := (L0 : Int)) (j := hi + 1) (by omega) (by omega) (by omega) (by omega)
        simpa [eL] using e2
      · rintro i hi' ρ ⟨x, rfl, hj⟩
        simp only [List.length_map, List.length_range] at hi'
        by_cases q : (new.drop (L0 + i)).take m = par new (.bak w a t mm) f m
        · refine ⟨.rt (.bl true), ?_, rfl, i, hi', q⟩
          have e : ((L0 : Int) + (i : Int)) = ((L0 + i : Nat) : Int) := by omega
          unfold forB
          simp only [List.getElem_map, List.getElem_range, bindT_nm, pure_bind, e]
          generalize L0 + i = p at q ⊢
          simp (disch := first | assumption | omega) [cutL_part, q]
        · refine ⟨.nx [.val (caseD E rs new), .val (.int k), .val (.int f), .val (.int m), .val (.tup (E.map D.str)), .val (.tup (rs.map Rl.d)), .val (.str new), .val (Rl.bak w a t mm).d, .val (.str (par new (.bak w a t mm) f m)), .val (.int lo), .val (.int hi), .val (.int ((L0 + i : Nat) : Int))], ?_, _, rfl, fun j hji => ?_⟩
          · have e : ((L0 : Int) + (i : Int)) = ((L0 + i : Nat) : Int) := by omega
            have qb : ((new.drop (L0 + i)).take m == par new (.bak w a t mm) f m) = false := by simpa using q
            unfold forB
            simp only [List.getElem_map, List.getElem_range, bindT_nm, pure_bind, e]
            generalize L0 + i = p at q qb ⊢
            simp (disch := first | assumption | omega) [cutL_part, qb]
          · by_cases z : j = i
            · rw [z]; exact q
            · exact hj j (by omega)
      · rintro u (⟨rfl, hj⟩ | ⟨ρ', rfl, x, rfl, hj⟩)
        · rw [key.mpr hj]; rfl
        · have : hB E new (.bak w a t mm) f m = false := by
            rw [← Bool.not_eq_true, key]
            rintro ⟨j, h1, h2⟩
            exact hj j (by simpa using h1) h2
          rw [this]
          exact sts_rt (.bl false) (by simp) rfl
  · rw [decide_eq_false hmost, Bool.false_and]
    refine sts_rt (.bl false) ?_ rfl
    cases r <;> simp [Rl.d, at4, at5, Rl.most] at hmost ⊢ <;> omega
end K86
set_option Elab.async false
set_option linter.all false
set_option maxRecDepth 100000
set_option maxHeartbeats 1000000
/-! law k86: is_heard, the reach, the greedy cuts -/
namespace TI
open L2
section
variable {α : Type} {ss b : Sts} {ρ : List Sl} {c : Ex} {f : Out → M α} {r : M α}
theorem sts_end {r : M Out} (h : (exSs ss ρ >>= pure) = r) : exSs ss ρ = r := by rw [bind_pure] at h; exact h
theorem sts_whl (I : Nat → List Sl → Prop) (E : List Sl → Prop) (n : Nat) (hI : I n ρ) (hk : n < fuel)
    (step : ∀ n ρ, I n ρ → (whlC c ρ = pure false ∧ E ρ) ∨ ∃ ρ' m, whlC c ρ = pure true ∧ (whlB b ρ = pure (.nx ρ') ∨ whlB b ρ = pure (.ct ρ')) ∧ m < n ∧ I m ρ') (fin : ∀ ρ', E ρ' → (exSs ss ρ' >>= f) = r) : (exSs (.cons (.whl c b) ss) ρ >>= f) = r := by
  obtain ⟨ρ', e, h⟩ := whlL_inv I E step fuel n ρ hI hk
  refine sts_nx ρ' ?_ (fin ρ' h)
  rw [exS_whl, e]
end
end TI
namespace K86
open L2 TI
theorem r_is_heard {E : List T} {rs : List Rl} {new : T} (C : CO E rs new) (f e : Nat) (h1 : f < e) (h2 : e ≤ new.length) : s_is_heard [caseD E rs new, .tup [.int f, .int e]] = pure (.bl (isH E new rs f (e - f))) := by
  have hL := lineV
  have hn := C.n
  have hr := C.r
  obtain ⟨m, hm⟩ : ∃ m, m = e - f := ⟨_, rfl⟩
  unfold s_is_heard f_is_heard
  refine run_go rfl ?_
  refine sts_nx [.val (caseD E rs new), .val (.tup [.int f, .int e]), .val (.int m), .no] (by simp [case_2, r_check_stretch new f e h1 h2 hn, ← hm]) ?_
  rw [← hm]
  by_cases e1 : m = 1
  · refine sts_rt (.bl true) (by simp [e1]) ?_
    have : isH E new rs f m = true := by simp [isH, e1]
    rw [this]
    try rfl
  refine sts_nx [.val (caseD E rs new), .val (.tup [.int f, .int e]), .val (.int m), .no] ?_ ?_
  · have : ((m : Int) == 1) = false := by first | (simp; omega) | simp [e1]
    simp [this]
  have eH : isH E new rs f m = rs.any fun r => decide (m ≤ r.most) && hB E new r f m := by
    have : (m == 1) = false := by simpa using e1
    rw [isH, this, Bool.false_or]
  refine sts_forx (ds := (List.range rs.length).map fun j : Nat => D.int j) [.val (caseD E rs new), .val (.tup [.int f, .int e]), .val (.int m), .no] ?_ rfl
    (fun i ρ => ∃ x, ρ = [.val (caseD E rs new), .val (.tup [.int f, .int e]), .val (.int m), x] ∧ ∀ j (hj : j < rs.length), j < i → (decide (m ≤ (rs[j]).most) && hB E new rs[j] f m) = false)
    (fun u => u = .rt (.bl true) ∧ isH E new rs f m = true) ⟨.no, rfl, fun j _ hj => by omega⟩ ?_ ?_
  · simp (disch := first | assumption | omega) [case_1]
    exact rng_nat (by omega)
  · rintro i hi ρ ⟨x, rfl, hj⟩
    simp only [List.length_map, List.length_range] at hi
    have hb := r_heard_by C i f m hi (by omega) (by omega)
    unfold forB
    simp only [List.getElem_map, List.getElem_range, bindT_nm, pure_bind]
    cases q : (decide (m ≤ (rs[i]).most) && hB E new rs[i] f m) with
    | true =>
      rw [q] at hb
      refine ⟨.rt (.bl true), by simp [hb, at_0], rfl, ?_⟩
      rw [eH, List.any_eq_true]
      exact ⟨_, List.getElem_mem hi, q⟩
    | false =>
      rw [q] at hb
      refine ⟨.nx [.val (caseD E rs new), .val (.tup [.int f, .int e]), .val (.int m), .val (.int i)], by simp [hb, at_0], _, rfl, fun j hjl hji => ?_⟩
      by_cases z : j = i
      · subst z; exact q
      · exact hj j hjl (by omega)
  · rintro u (⟨rfl, hj⟩ | ⟨ρ', rfl, x, rfl, hj⟩)
    · rw [hj]; rfl
    · have : isH E new rs f m = false := by
        rw [eH, ← Bool.not_eq_true, List.any_eq_true]
        rintro ⟨r, hr', h⟩
        obtain ⟨j, hj', rfl⟩ := List.getElem_of_mem hr'
        rw [hj j hj' (by simpa using hj')] at h
        cases h
      rw [this]
      exact sts_rt (.bl false) (by simp) rfl
def reD (E : List T) (rs : List Rl) (new : T) (n : Nat) : List D := (List.range n).map fun f : Nat => D.int (Re E new rs f)
theorem r_reach_table {E : List T} {rs : List Rl} {new : T} (C : CO E rs new) : s_reach_table [caseD E rs new] = pure (.tup (reD E rs new new.length)) := by
  have hL := lineV
  have hn := C.n
  unfold s_reach_table f_reach_table
  refine run_go rfl ?_
  refine sts_nx [.val (caseD E rs new), .val (.str new), .no, .no, .no] (by simp [case_2]) ?_
  refine sts_nx [.val (caseD E rs new), .val (.str new), .own (.lst []), .no, .no] (by simp) ?_
  refine sts_nx [.val (caseD E rs new), .val (.str new), .own (.lst []), .val (.int 0), .no] (by simp) ?_
  refine sts_for (ds := (List.range new.length).map fun j : Nat => D.int j) [.val (caseD E rs new), .val (.str new), .own (.lst []), .val (.int 0), .no] (by simp (disch := first | assumption | omega); exact rng_nat (by omega)) rfl
    (fun i ρ => ∃ x, ∃ p : Nat, ρ = [.val (caseD E rs new), .val (.str new), .own (.lst (reD E rs new i)), .val (.int p), x] ∧ (p = 0 ∨ ∃ j, j < i ∧ p = Re E new rs j)) ⟨.no, 0, rfl, .inl rfl⟩ ?_ ?_
  · rintro i hi ρ ⟨x, p, rfl, hp⟩
    simp only [List.length_map, List.length_range] at hi
    have l1 := Lo_pos E new (rs := rs) (f := i)
    have l2 := Lo_le E new (rs := rs) hi
    have hpi : p ≤ Re E new rs i := by
      rcases hp with hp | ⟨j, hj, hp⟩
      · omega
      · rw [hp]; exact Re_mono E new (by omega)
    have eR : Re E new rs i = i + Lo E new rs i := rfl
    refine ⟨[.val (caseD E rs new), .val (.str new), .own (.lst (reD E rs new (i + 1))), .val (.int (Re E new rs i : Nat)), .val (.int i)], .inl ?_, _, _, rfl, .inr ⟨i, by omega, rfl⟩⟩
    unfold forB
    simp only [List.getElem_map, List.getElem_range, bindT_nm, pure_bind]
    refine sts_end ?_
    obtain ⟨q, hq⟩ : ∃ q : Nat, (if ((i : Int) + 1) > (p : Int) then ((i : Int) + 1) else (p : Int)) = (q : Int) ∧ q ≤ Re E new rs i ∧ i + 1 ≤ q := by
      split
      · exact ⟨i + 1, by omega, by omega, by omega⟩
      · exact ⟨p, rfl, hpi, by omega⟩
    obtain ⟨hq1, hq2, hq3⟩ := hq
    refine sts_nx [.val (caseD E rs new), .val (.str new), .own (.lst (reD E rs new i)), .val (.int q), .val (.int i)] ?_ ?_
    · simp [bltD, hq1]
    refine sts_whl (fun n ρ => ∃ q : Nat, ρ = [.val (caseD E rs new), .val (.str new), .own (.lst (reD E rs new i)), .val (.int q), .val (.int i)] ∧ q ≤ Re E new rs i ∧ i + 1 ≤ q ∧ n = Re E new rs i - q) (fun ρ => ρ = [.val (caseD E rs new), .val (.str new), .own (.lst (reD E rs new i)), .val (.int (Re E new rs i : Nat)), .val (.int i)]) (Re E new rs i - q) ⟨q, rfl, hq2, hq3, rfl⟩ (by show _ < 1000000; omega) ?_ ?_
    · rintro n ρ ⟨q, rfl, h1, h2, rfl⟩
      by_cases c : q < Re E new rs i
      · have ih : isH E new rs i (q + 1 - i) = true := (isH_iff E new (by omega) (by omega)).mpr (by omega)
        have hh := r_is_heard C i (q + 1) (by omega) (by omega)
        rw [ih] at hh
        refine .inr ⟨[.val (caseD E rs new), .val (.str new), .own (.lst (reD E rs new i)), .val (.int (q + 1 : Nat)), .val (.int i)], Re E new rs i - (q + 1), ?_, .inl ?_, by omega, q + 1, rfl, by omega, by omega, rfl⟩
        · have h3 : q < new.length := by omega
          simp at hh
          simp (disch := first | assumption | omega) [hh, h3]
        · simp
      · have e1 : q = Re E new rs i := by omega
        refine .inl ⟨?_, by rw [e1]⟩
        by_cases h3 : q < new.length
        · have ih : isH E new rs i (q + 1 - i) = false := by
            rw [← Bool.not_eq_true, isH_iff E new (by omega) (by omega)]
            omega
          have hh := r_is_heard C i (q + 1) (by omega) (by omega)
          rw [ih] at hh
          simp at hh
          simp (disch := first | assumption | omega) [hh, h3]
        · simp (disch := first | assumption | omega) [h3]
    · rintro ρ' rfl
      refine sts_nx [.val (caseD E rs new), .val (.str new), .own (.lst (reD E rs new (i + 1))), .val (.int (Re E new rs i : Nat)), .val (.int i)] ?_ (sts_nil rfl)
      have hl : i < line := by omega
      simp [appD, hl, reD, List.range_succ]
  · rintro ρ' ⟨x, p, rfl, _⟩
    refine sts_rt (.tup (reD E rs new new.length)) ?_ rfl
    simp
end K86
set_option Elab.async false
set_option linter.all false
set_option maxRecDepth 100000
set_option maxHeartbeats 1000000
/-! law k86: the greedy cuts, how many pieces, changed rules -/
namespace K86
open L2 TI
theorem gr_unf {rc : Nat → Nat} {n p : Nat} (h : ∀ p, p < n → p < rc p) : gr rc n n p = if p < n ∧ rc p < n then rc p :: gr rc n n (rc p) else [] := by
  have e := gr_more h n (n + 1) p (by omega) (by omega)
  rw [e]; rfl
def nD (l : List Nat) : List D := l.map fun k : Nat => D.int k
theorem Re_lt (E : List T) (new : T) (rs : List Rl) {f : Nat} : f < Re E new rs f := by
  have := Lo_pos E new (rs := rs) (f := f)
  unfold Re; omega
theorem Re_le (E : List T) (new : T) (rs : List Rl) {f : Nat} (h : f < new.length) : Re E new rs f ≤ new.length := Lo_le E new h
theorem gr_len {rc : Nat → Nat} {n : Nat} : ∀ k p, (gr rc n k p).length ≤ k
  | 0, p => by simp [gr]
  | k + 1, p => by
    unfold gr
    split
    · have := gr_len (rc := rc) (n := n) k (rc p)
      simp; omega
    · simp
theorem r_greedy {E : List T} {rs : List Rl} {new : T} (C : CO E rs new) : s_greedy_cuts [caseD E rs new] = pure (.tup (nD (gr (Re E new rs) new.length new.length 0))) := by
  have hL := lineV
  have hn := C.n
  unfold s_greedy_cuts f_greedy_cuts
  refine run_go rfl ?_
  refine sts_nx [.val (caseD E rs new), .val (.tup (reD E rs new new.length)), .no, .no] (by simp [r_reach_table C]) ?_
  refine sts_nx [.val (caseD E rs new), .val (.tup (reD E rs new new.length)), .own (.lst []), .no] (by simp) ?_
  refine sts_nx [.val (caseD E rs new), .val (.tup (reD E rs new new.length)), .own (.lst []), .val (.int 0)] (by simp) ?_
  have hlen : (reD E rs new new.length).length = new.length := by simp [reD]
  refine sts_whl (fun n ρ => ∃ (p : Nat) (l : List Nat), ρ = [.val (caseD E rs new), .val (.tup (reD E rs new new.length)), .own (.lst (nD l)), .val (.int p)] ∧ gr (Re E new rs) new.length new.length 0 = l ++ gr (Re E new rs) new.length new.length p ∧ n = new.length - p)
    (fun ρ => ∃ p : Nat, ρ = [.val (caseD E rs new), .val (.tup (reD E rs new new.length)), .own (.lst (nD (gr (Re E new rs) new.length new.length 0))), .val (.int p)]) new.length ⟨0, [], rfl, rfl, rfl⟩ (by show _ < 1000000; omega) ?_ ?_
  · rintro n ρ ⟨p, l, rfl, h1, rfl⟩
    rw [gr_unf (p := p) (fun p _ => Re_lt E new rs)] at h1
    by_cases c : p < new.length
    · have e1 : subD (.tup (reD E rs new new.length)) (.int (p : Int)) = pure (.int (Re E new rs p : Nat)) := by
        rw [sub_tupN (by rw [hlen]; exact c)]
        simp [reD]
      by_cases c2 : Re E new rs p < new.length
      · rw [if_pos ⟨c, c2⟩] at h1
        have hll : l.length < new.length := by
          have := congrArg List.length h1
          have g := gr_len (rc := Re E new rs) (n := new.length) new.length 0
          simp at this
          omega
        refine .inr ⟨[.val (caseD E rs new), .val (.tup (reD E rs new new.length)), .own (.lst (nD (l ++ [Re E new rs p]))), .val (.int (Re E new rs p : Nat))], new.length - Re E new rs p, ?_, .inl ?_, by have := Re_lt E new rs (f := p); omega, Re E new rs p, l ++ [Re E new rs p], rfl, by simpa using h1, rfl⟩
        · simp only [whlC_eq, ev_and, evAnd_cons, evAnd_one, ev_cmp, ev_var, ev_blt, evs_cons, evs_nil, ev_sub]
          simp [e1, hlen, c, c2, bltD]
        · refine sts_end ?_
          refine sts_nx [.val (caseD E rs new), .val (.tup (reD E rs new new.length)), .own (.lst (nD l)), .val (.int (Re E new rs p : Nat))] ?_ ?_
          · simp [reD, c, atI_n]
          · refine sts_nx [.val (caseD E rs new), .val (.tup (reD E rs new new.length)), .own (.lst (nD (l ++ [Re E new rs p]))), .val (.int (Re E new rs p : Nat))] ?_ (sts_nil rfl)
            have : l.length < line := by omega
            simp [appD, nD, this]
      · rw [if_neg (fun z => c2 z.2)] at h1
        refine .inl ⟨?_, p, by rw [h1]; simp⟩
        simp [hlen, c, bltD]
        simp [reD, c, c2, atI_n]
    · rw [if_neg (fun z => c z.1)] at h1
      refine .inl ⟨?_, p, by rw [h1]; simp⟩
      simp [hlen, c, bltD]
  · rintro ρ' ⟨p, rfl⟩
    refine sts_rt (.tup (nD (gr (Re E new rs) new.length new.length 0))) ?_ rfl
    simp
theorem r_fewest {E : List T} {rs : List Rl} {new : T} (C : CO E rs new) : s_fewest_count [caseD E rs new] = pure (.int (gr (Re E new rs) new.length new.length 0).length) := by
  unfold s_fewest_count f_fewest_count
  rw [run_eq rfl]
  simp [r_greedy C, bltD, nD]
theorem emp_str : ("" : PySem.Str).cps.toList = [] := by rfl
/-- how many pieces the case has -/
def pc (E : List T) (rs : List Rl) (new : T) : Nat := pcs (Re E new rs) new.length
theorem r_pieces {E : List T} {rs : List Rl} {new : T} (C : CO E rs new) : s_piece_count [caseD E rs new] = pure (.int (pc E rs new)) := by
  unfold s_piece_count f_piece_count
  rw [run_eq rfl]
  by_cases e : new = []
  · subst e
    simp [case_2, emp_str, pc, pcs]
  · have e' : (new == []) = false := by simpa using e
    have e2 : new.length ≠ 0 := by simpa using e
    simp [case_2, emp_str, e', r_fewest C, pc, pcs, e2]
    try omega
theorem r_with {E : List T} {rs : List Rl} {new : T} (C : CO E rs new) (k : Nat) (hk : k < rs.length) (r : Rl) : s__with [caseD E rs new, .int k, r.d] = pure (caseD E (rs.set k r) new) := by
  have hL := lineV
  have hr := C.r
  unfold s__with f__with
  refine run_go rfl ?_
  refine sts_nx [.val (caseD E rs new), .val (.int k), .val r.d, .val (.tup (E.map D.str)), .val (.tup (rs.map Rl.d)), .val (.str new)] (by simp [caseD]) ?_
  refine sts_rt (caseD E (rs.set k r) new) ?_ rfl
  have e1 : cutL (rs.map Rl.d) none (some (k : Int)) = (rs.map Rl.d).take k := cutL_to _ _
  have e2 : cutL (rs.map Rl.d) (some ((k : Int) + 1)) none = (rs.map Rl.d).drop (k + 1) := by
    have := cutL_from (rs.map Rl.d) (k + 1)
    simpa using this
  have e3 : (rs.map Rl.d).take k ++ r.d :: (rs.map Rl.d).drop (k + 1) = (rs.set k r).map Rl.d := by
    rw [List.set_eq_take_append_cons_drop, if_pos hk]
    simp
  have l1 : ((rs.map Rl.d).take k).length + 1 ≤ line := by simp; omega
  have l2 : ((rs.map Rl.d).take k ++ [r.d]).length + ((rs.map Rl.d).drop (k + 1)).length ≤ line := by simp; omega
  have b1 : binD .Add (.tup ((rs.map Rl.d).take k)) (.tup [r.d]) = pure (.tup ((rs.map Rl.d).take k ++ [r.d])) := bin_addT (by simpa using l1)
  have b2 : binD .Add (.tup ((rs.map Rl.d).take k ++ [r.d])) (.tup ((rs.map Rl.d).drop (k + 1))) = pure (.tup ((rs.set k r).map Rl.d)) := by
    rw [bin_addT l2, ← e3]
    simp
  simp (disch := first | assumption | omega) [e1, e2, b1, b2]
  simp [caseD]
end K86
set_option Elab.async false
set_option linter.all false
set_option maxRecDepth 100000
set_option maxHeartbeats 1000000
/-! law k86: rules changed, pieces by bounds -/
namespace K86
open L2 TI
theorem cut4 {a b c d : D} : cutL [a, b, c, d] none (some (-1)) = [a, b, c] := rfl
theorem cut5 {a b c d e : D} : cutL [a, b, c, d, e] none (some (-1)) = [a, b, c, d] := rfl
theorem cut5a {a b c d e : D} : cutL [a, b, c, d, e] none (some 1) = [a] := rfl
theorem cut5b {a b c d e : D} : cutL [a, b, c, d, e] (some 2) none = [c, d, e] := rfl
theorem cut5c {a b c d e : D} : cutL [a, b, c, d, e] (some 2) (some (-1)) = [c, d] := rfl
/-- the rule with another most -/
theorem wm_d (r : Rl) : ∃ x, slcD r.d none (some (-1)) = pure x ∧ ∀ m : Nat, binD .Add x (.tup [.int m]) = pure (r.wm m).d := by
  have hL := lineV
  cases r with
  | eld e t m' => exact ⟨_, by simp [Rl.d, cut4]; rfl, fun m => by simp (disch := first | assumption | (simp; omega)) [Rl.d, Rl.wm]⟩
  | bak w a t m' => exact ⟨_, by simp [Rl.d, cut5]; rfl, fun m => by simp (disch := first | assumption | (simp; omega)) [Rl.d, Rl.wm]⟩
theorem ww_d (w0 : Nat) (a t : Bool) (m : Nat) : ∃ x y, slcD (Rl.bak w0 a t m).d none (some 1) = pure x ∧ slcD (Rl.bak w0 a t m).d (some 2) none = pure y ∧ ∀ w : Nat, ∃ z, binD .Add x (.tup [.int w]) = pure z ∧ binD .Add z y = pure (Rl.bak w a t m).d := by
  have hL := lineV
  exact ⟨_, _, by simp [Rl.d, cut5a]; rfl, by simp [Rl.d, cut5b]; rfl, fun w => ⟨_, by simp (disch := first | assumption | (simp; omega)); rfl, by simp (disch := first | assumption | (simp; omega)) [Rl.d]⟩⟩
theorem RO.wm {E : List T} {r : Rl} {m : Nat} (h : RO E r) (h1 : m ≤ 1000) (h2 : 2 ≤ m) : RO E (r.wm m) := by
  cases r with
  | eld e t m' => exact ⟨h.1, h1, h2⟩
  | bak w a t m' => exact ⟨h.1, h1, h.2.2.1, h2⟩
theorem RO.ww {E : List T} {r : Rl} {w : Nat} (h : RO E r) (h1 : w ≤ 1000) (h2 : 1 ≤ w) : RO E (r.ww w) := by
  cases r with
  | eld e t m' => exact h
  | bak w a t m' => exact ⟨h1, h.2.1, h2, h.2.2.2⟩
theorem CO.set {E : List T} {rs : List Rl} {new : T} (C : CO E rs new) (k : Nat) {r : Rl} (h : RO E r) : CO E (rs.set k r) new :=
  ⟨C.n, C.t, C.e, by simpa using C.r, fun x hx => by
    rcases List.mem_or_eq_of_mem_set hx with h1 | h1
    · exact C.o x h1
    · rw [h1]; exact h⟩
theorem r_check_ok {E : List T} {rs : List Rl} {new : T} (C : CO E rs new) (k : Nat) (hk : k < rs.length) : s__check_rule [caseD E rs new, .int k] = pure .non := by
  have hL := lineV
  have hr := C.r
  unfold s__check_rule f__check_rule
  rw [run_eq rfl]
  simp (disch := first | assumption | omega) [isTy, tyOk, case_1, bltD, hk]
def noS (word : PySem.Str) (d : D) : Er := ⟨("NoSuch" : PySem.Str).cps.toList, [("name" : PySem.Str).cps.toList, ("word" : PySem.Str).cps.toList], [d, .str word.cps.toList]⟩
/-- no rule's number -/
def badN (n : Nat) : D → Prop
  | .int i => ¬ (0 ≤ i ∧ i < n)
  | .wel => False
  | _ => True
theorem r_check_bad {E : List T} {rs : List Rl} {new : T} (C : CO E rs new) (d : D) (h : badN rs.length d) : s__check_rule [caseD E rs new, d] = M.thr (noS "rule" d) := by
  have hL := lineV
  have hr := C.r
  unfold s__check_rule f__check_rule
  rw [run_eq rfl]
  cases d with
  | wel => exact h.elim
  | int i =>
    have h : ¬ (0 ≤ i ∧ i < rs.length) := h
    by_cases h0 : 0 ≤ i
    · have h1 : ¬ i < rs.length := fun z => h ⟨h0, z⟩
      simp (disch := first | assumption | omega) [isTy, tyOk, case_1, bltD, h0, h1, exS_rse, noS]
    · simp (disch := first | assumption | omega) [isTy, tyOk, case_1, bltD, h0, exS_rse, noS]
  | _ => simp (disch := first | assumption | omega) [isTy, tyOk, exS_rse, noS]
theorem get_rule {E : List T} {rs : List Rl} {new : T} (k : Nat) (hk : k < rs.length) : (do subD (← subD (caseD E rs new) (.int 1)) (.int k)) = (pure (rs[k]).d : M D) := by
  simp [case_1, atI_n, hk]
theorem r_by_most {E : List T} {rs : List Rl} {new : T} (C : CO E rs new) (k : Nat) (hk : k < rs.length) (ms : List Nat) (hms : ∀ m ∈ ms, 2 ≤ m ∧ m ≤ 1000) (hml : ms.length ≤ 1000) :
    s_pieces_by_most [caseD E rs new, .int k, .tup (nD ms)] = pure (.tup (nD (ms.map fun m => pc E (rs.set k ((rs[k]).wm m)) new))) := by
  have hL := lineV
  unfold s_pieces_by_most f_pieces_by_most
  refine run_go rfl ?_
  refine sts_nx [.val (caseD E rs new), .val (.int k), .val (.tup (nD ms)), .no, .no] (by simp [r_check_ok C k hk]) ?_
  refine sts_nx [.val (caseD E rs new), .val (.int k), .val (.tup (nD ms)), .val (rs[k]).d, .no] (by simp [case_1, atI_n, hk]) ?_
  refine sts_rt (.tup (nD (ms.map fun m => pc E (rs.set k ((rs[k]).wm m)) new))) ?_ rfl
  simp [itemsD]
  obtain ⟨x, hx1, hx2⟩ := wm_d rs[k]
  unfold nD
  rw [compL_map (r := fun m : Nat => D.int (pc E (rs.set k ((rs[k]).wm m)) new))]
  · have hml' : ms.length ≤ line := by omega
    simp [hml', bltD]
    rfl
  · intro m hm
    obtain ⟨h1, h2⟩ := hms m hm
    have hp := r_pieces (C.set k ((C.o _ (List.getElem_mem hk)).wm h2 h1))
    unfold cmpF
    simp (disch := first | assumption | omega) [hx1, hx2, r_with C k hk, hp]
theorem r_by_wide {E : List T} {rs : List Rl} {new : T} (C : CO E rs new) (k : Nat) (hk : k < rs.length) (w0 : Nat) (a t : Bool) (mm : Nat) (hb : rs[k] = .bak w0 a t mm) (ms : List Nat) (hms : ∀ m ∈ ms, 1 ≤ m ∧ m ≤ 1000) (hml : ms.length ≤ 1000) :
    s_pieces_by_wide [caseD E rs new, .int k, .tup (nD ms)] = pure (.tup (nD (ms.map fun w => pc E (rs.set k ((rs[k]).ww w)) new))) := by
  have hL := lineV
  unfold s_pieces_by_wide f_pieces_by_wide
  refine run_go rfl ?_
  refine sts_nx [.val (caseD E rs new), .val (.int k), .val (.tup (nD ms)), .no, .no] (by simp [r_check_ok C k hk]) ?_
  refine sts_nx [.val (caseD E rs new), .val (.int k), .val (.tup (nD ms)), .val (rs[k]).d, .no] (by simp [case_1, atI_n, hk]) ?_
  refine sts_nx [.val (caseD E rs new), .val (.int k), .val (.tup (nD ms)), .val (rs[k]).d, .no] (by rw [hb]; simp [Rl.d, at_0, sB_sB]) ?_
  refine sts_rt (.tup (nD (ms.map fun w => pc E (rs.set k ((rs[k]).ww w)) new))) ?_ rfl
  simp [itemsD]
  obtain ⟨x, y, hx1, hx2, hx3⟩ := ww_d w0 a t mm
  unfold nD
  rw [compL_map (r := fun w : Nat => D.int (pc E (rs.set k ((rs[k]).ww w)) new))]
  · have hml' : ms.length ≤ line := by omega
    simp [hml', bltD]
    rfl
  · intro w hm
    obtain ⟨h1, h2⟩ := hms w hm
    have hp := r_pieces (C.set k ((C.o _ (List.getElem_mem hk)).ww h2 h1))
    obtain ⟨z, z1, z2⟩ := hx3 w
    rw [hb] at hp ⊢
    have hp : s_piece_count [caseD E (rs.set k (.bak w a t mm)) new] = pure (.int (pc E (rs.set k (.bak w a t mm)) new)) := hp
    unfold cmpF
    simp (disch := first | assumption | omega) [hx1, hx2, z1, z2, r_with C k hk, hp, Rl.ww]
theorem r_by_bad {E : List T} {rs : List Rl} {new : T} (C : CO E rs new) (d x : D) (h : badN rs.length d) : s_pieces_by_most [caseD E rs new, d, x] = M.thr (noS "rule" d) ∧ s_pieces_by_wide [caseD E rs new, d, x] = M.thr (noS "rule" d) ∧
    s_least_most [caseD E rs new, d] = M.thr (noS "rule" d) ∧ s_least_wide [caseD E rs new, d] = M.thr (noS "rule" d) := by
  have e := r_check_bad C d h
  refine ⟨?_, ?_, ?_, ?_⟩
  · unfold s_pieces_by_most f_pieces_by_most
    rw [run_eq rfl]
    simp [e]
  · unfold s_pieces_by_wide f_pieces_by_wide
    rw [run_eq rfl]
    simp [e]
  · unfold s_least_most f_least_most
    rw [run_eq rfl]
    simp [e]
  · unfold s_least_wide f_least_wide
    rw [run_eq rfl]
    simp [e]
theorem r_wide_elder {E : List T} {rs : List Rl} {new : T} (C : CO E rs new) (k : Nat) (hk : k < rs.length) (e : Nat) (t : Bool) (mm : Nat) (hb : rs[k] = .eld e t mm) (x : D) :
    s_pieces_by_wide [caseD E rs new, .int k, x] = M.thr (noS "wide" (.int k)) ∧ s_least_wide [caseD E rs new, .int k] = M.thr (noS "wide" (.int k)) := by
  have hL := lineV
  refine ⟨?_, ?_⟩
  · unfold s_pieces_by_wide f_pieces_by_wide
    refine run_go rfl ?_
    refine sts_nx [.val (caseD E rs new), .val (.int k), .val x, .no, .no] (by simp [r_check_ok C k hk]) ?_
    refine sts_nx [.val (caseD E rs new), .val (.int k), .val x, .val (rs[k]).d, .no] (by simp [case_1, atI_n, hk]) ?_
    rw [hb]
    refine sts_ex (ρ' := [.val (caseD E rs new), .val (.int k), .val x, .val (Rl.eld e t mm).d, .no]) (noS "wide" (.int k)) ?_ rfl
    simp [Rl.d, at_0, nEB, exS_rse, noS]
    try rfl
  · unfold s_least_wide f_least_wide
    refine run_go rfl ?_
    refine sts_nx [.val (caseD E rs new), .val (.int k), .no, .no, .no, .no, .no] (by simp [r_check_ok C k hk]) ?_
    refine sts_nx [.val (caseD E rs new), .val (.int k), .val (rs[k]).d, .no, .no, .no, .no] (by simp [case_1, atI_n, hk]) ?_
    rw [hb]
    refine sts_ex (ρ' := [.val (caseD E rs new), .val (.int k), .val (Rl.eld e t mm).d, .no, .no, .no, .no]) (noS "wide" (.int k)) ?_ rfl
    simp [Rl.d, at_0, nEB, exS_rse, noS]
    try rfl
end K86
set_option Elab.async false
set_option linter.all false
set_option maxRecDepth 100000
set_option maxHeartbeats 1000000
/-! law k86: the least bounds, the widest case -/
namespace K86
open L2 TI
section
variable {E : List T} {rs : List Rl} {new : T}
theorem Lo_set {k : Nat} {r1 r2 : Rl} {f : Nat} (hk : k < rs.length) (h : ∀ m, m ≤ r1.most → m ≤ Rn E new r1 f → m ≤ r2.most ∧ m ≤ Rn E new r2 f) : Lo E new (rs.set k r1) f ≤ Lo E new (rs.set k r2) f := by
  refine (le_Lo E new).mpr ?_
  rcases (le_Lo E new).mp (Nat.le_refl (Lo E new (rs.set k r1) f)) with q | ⟨r, hr, q1, q2⟩
  · exact .inl q
  · right
    obtain ⟨i, hi, e⟩ := List.getElem_of_mem hr
    have hi' : i < rs.length := by simpa using hi
    by_cases z : i = k
    · subst z
      rw [List.getElem_set_self] at e
      subst e
      obtain ⟨a, b⟩ := h _ q1 q2
      exact ⟨r2, List.mem_iff_getElem.mpr ⟨i, by simpa using hi', List.getElem_set_self _⟩, a, b⟩
    · rw [List.getElem_set_ne (Ne.symm z)] at e
      exact ⟨r, List.mem_iff_getElem.mpr ⟨i, by simpa using hi', by rw [List.getElem_set_ne (Ne.symm z)]; exact e⟩, q1, q2⟩
theorem pc_set {k : Nat} {r1 r2 : Rl} (hk : k < rs.length) (h : ∀ f m, m ≤ r1.most → m ≤ Rn E new r1 f → m ≤ r2.most ∧ m ≤ Rn E new r2 f) : pc E (rs.set k r2) new ≤ pc E (rs.set k r1) new :=
  pcs_mono (fun p _ => by have := Lo_set (f := p) hk (h p); unfold Re; omega) fun p q hpq => Re_mono E new hpq
theorem wm_most {r : Rl} {m : Nat} : (r.wm m).most = m := by cases r <;> rfl
theorem wm_self {r : Rl} : r.wm r.most = r := by cases r <;> rfl
theorem pc_most {k m m' : Nat} (hk : k < rs.length) (h : m ≤ m') : pc E (rs.set k ((rs[k]).wm m')) new ≤ pc E (rs.set k ((rs[k]).wm m)) new := by
  refine pc_set hk fun f x h1 h2 => ?_
  rw [wm_most] at h1 ⊢
  rw [Rn_wm] at h2 ⊢
  exact ⟨by omega, h2⟩
theorem set_self {k : Nat} (hk : k < rs.length) : rs.set k rs[k] = rs := List.set_getElem_self hk
theorem pc_own {k : Nat} (hk : k < rs.length) : pc E (rs.set k ((rs[k]).wm (rs[k]).most)) new = pc E rs new := by rw [wm_self, set_self hk]
theorem ww_most {r : Rl} {w : Nat} : (r.ww w).most = r.most := by cases r <;> rfl
theorem pc_wide {k w w' : Nat} (hk : k < rs.length) (h : w ≤ w') : pc E (rs.set k ((rs[k]).ww w')) new ≤ pc E (rs.set k ((rs[k]).ww w)) new := by
  refine pc_set hk fun f x h1 h2 => ?_
  rw [ww_most] at h1 ⊢
  exact ⟨h1, Nat.le_trans h2 (Rn_wide E new h)⟩
/-- the least bound that does as well as the own one -/
def lm (E : List T) (rs : List Rl) (new : T) (k : Nat) (hk : k < rs.length) : Nat := lea (fun m => decide (pc E (rs.set k ((rs[k]).wm m)) new ≤ pc E rs new)) 2 ((rs[k]).most - 2)
def lw (E : List T) (rs : List Rl) (new : T) (k : Nat) (hk : k < rs.length) (w0 : Nat) : Nat := lea (fun w => decide (pc E (rs.set k ((rs[k]).ww w)) new ≤ pc E rs new)) 1 (w0 - 1)
theorem most_ok (C : CO E rs new) {k : Nat} (hk : k < rs.length) : 2 ≤ (rs[k]).most ∧ (rs[k]).most ≤ 1000 := by
  have := C.o rs[k] (List.getElem_mem hk)
  generalize rs[k] = r at this
  cases r with
  | eld e t m => exact ⟨this.2.2, this.2.1⟩
  | bak w a t m => exact ⟨this.2.2.2, this.2.1⟩
theorem lm_spec (C : CO E rs new) {k : Nat} (hk : k < rs.length) : pc E (rs.set k ((rs[k]).wm (lm E rs new k hk))) new ≤ pc E rs new ∧ 2 ≤ lm E rs new k hk ∧ lm E rs new k hk ≤ (rs[k]).most ∧ ∀ x, 2 ≤ x → x < lm E rs new k hk → ¬ pc E (rs.set k ((rs[k]).wm x)) new ≤ pc E rs new := by
  have h0 := most_ok C hk
  obtain ⟨h1, h2, h3, h4⟩ := lea_spec (p := fun m => decide (pc E (rs.set k ((rs[k]).wm m)) new ≤ pc E rs new)) (k := (rs[k]).most - 2) (lo := 2) (by
    rw [decide_eq_true_eq, show 2 + ((rs[k]).most - 2) = (rs[k]).most by omega, pc_own hk]
    exact Nat.le_refl _)
  exact ⟨of_decide_eq_true h1, h2, by unfold lm; omega, fun x hx hx2 => of_decide_eq_false (h4 x hx hx2)⟩
theorem lm_uq (C : CO E rs new) {k : Nat} (hk : k < rs.length) {a : Nat} (h1 : pc E (rs.set k ((rs[k]).wm a)) new ≤ pc E rs new) (h2 : 2 ≤ a) (h3 : ∀ x, 2 ≤ x → x < a → ¬ pc E (rs.set k ((rs[k]).wm x)) new ≤ pc E rs new) : a = lm E rs new k hk := by
  obtain ⟨g1, g2, _, g3⟩ := lm_spec C hk
  exact lea_uq (p := fun m => decide (pc E (rs.set k ((rs[k]).wm m)) new ≤ pc E rs new)) (lo := 2) (decide_eq_true h1) (decide_eq_true g1) h2 g2 (fun x a b => decide_eq_false (h3 x a b)) (fun x a b => decide_eq_false (g3 x a b))
theorem r_least_most (C : CO E rs new) (k : Nat) (hk : k < rs.length) : s_least_most [caseD E rs new, .int k] = pure (.int (lm E rs new k hk)) := by
  have hL := lineV
  have h0 := most_ok C hk
  obtain ⟨y, hy1, hy2⟩ := wm_d rs[k]
  unfold s_least_most f_least_most
  refine run_go rfl ?_
  refine sts_nx [.val (caseD E rs new), .val (.int k), .no, .no, .no, .no, .no] (by simp [r_check_ok C k hk]) ?_
  refine sts_nx [.val (caseD E rs new), .val (.int k), .val (rs[k]).d, .no, .no, .no, .no] (by simp [case_1, atI_n, hk]) ?_
  refine sts_nx [.val (caseD E rs new), .val (.int k), .val (rs[k]).d, .val (.int (pc E rs new)), .no, .no, .no] (by simp [r_pieces C]) ?_
  refine sts_nx [.val (caseD E rs new), .val (.int k), .val (rs[k]).d, .val (.int (pc E rs new)), .val (.int 2), .no, .no] (by simp) ?_
  refine sts_nx [.val (caseD E rs new), .val (.int k), .val (rs[k]).d, .val (.int (pc E rs new)), .val (.int 2), .val (.int (rs[k]).most), .no] ?_ ?_
  · cases rs[k] <;> simp [Rl.d, at4, at5, Rl.most]
  refine sts_whl (fun n ρ => ∃ (lo hi : Nat) (x : Sl), ρ = [.val (caseD E rs new), .val (.int k), .val (rs[k]).d, .val (.int (pc E rs new)), .val (.int lo), .val (.int hi), x] ∧ 2 ≤ lo ∧ lo ≤ hi ∧ hi ≤ 1000 ∧ pc E (rs.set k ((rs[k]).wm hi)) new ≤ pc E rs new ∧ (∀ x, 2 ≤ x → x < lo → ¬ pc E (rs.set k ((rs[k]).wm x)) new ≤ pc E rs new) ∧ n = hi - lo)
    (fun ρ => ∃ (hi : Nat) (x : Sl), ρ = [.val (caseD E rs new), .val (.int k), .val (rs[k]).d, .val (.int (pc E rs new)), .val (.int (lm E rs new k hk)), .val (.int hi), x]) ((rs[k]).most - 2) ⟨2, (rs[k]).most, .no, rfl, by omega, by omega, by omega, by rw [pc_own hk]; exact Nat.le_refl _, fun x h1 h2 => by omega, rfl⟩ (by show _ < 1000000; omega) ?_ ?_
  · rintro n ρ ⟨lo, hi, x, rfl, h1, h2, h3, h4, h5, rfl⟩
    by_cases c : lo < hi
    · obtain ⟨mid, hm⟩ : ∃ mid, mid = (lo + hi) / 2 := ⟨_, rfl⟩
      have hmid : (((lo : Int) + hi) / 2) = (mid : Int) := by omega
      have hp := r_pieces (C.set k ((C.o _ (List.getElem_mem hk)).wm (m := mid) (by omega) (by omega)))
      by_cases q : pc E (rs.set k ((rs[k]).wm mid)) new ≤ pc E rs new
      · refine .inr ⟨[.val (caseD E rs new), .val (.int k), .val (rs[k]).d, .val (.int (pc E rs new)), .val (.int lo), .val (.int mid), .val (.int mid)], mid - lo, by simp [c], .inl ?_, by omega, lo, mid, _, rfl, h1, by omega, by omega, q, h5, rfl⟩
        refine sts_end ?_
        refine sts_nx [.val (caseD E rs new), .val (.int k), .val (rs[k]).d, .val (.int (pc E rs new)), .val (.int lo), .val (.int hi), .val (.int mid)] (by simp [hmid]) ?_
        refine sts_nx [.val (caseD E rs new), .val (.int k), .val (rs[k]).d, .val (.int (pc E rs new)), .val (.int lo), .val (.int mid), .val (.int mid)] ?_ (sts_nil rfl)
        simp (disch := first | assumption | omega) [hy1, hy2, r_with C k hk, hp, q]
      · refine .inr ⟨[.val (caseD E rs new), .val (.int k), .val (rs[k]).d, .val (.int (pc E rs new)), .val (.int (mid + 1 : Nat)), .val (.int hi), .val (.int mid)], hi - (mid + 1), by simp [c], .inl ?_, by omega, mid + 1, hi, _, rfl, by omega, by omega, h3, h4, fun x hx1 hx2 hx3 => q (Nat.le_trans (pc_most hk (by omega)) hx3), rfl⟩
        refine sts_end ?_
        refine sts_nx [.val (caseD E rs new), .val (.int k), .val (rs[k]).d, .val (.int (pc E rs new)), .val (.int lo), .val (.int hi), .val (.int mid)] (by simp [hmid]) ?_
        refine sts_nx [.val (caseD E rs new), .val (.int k), .val (rs[k]).d, .val (.int (pc E rs new)), .val (.int (mid + 1 : Nat)), .val (.int hi), .val (.int mid)] ?_ (sts_nil rfl)
        simp (disch := first | assumption | omega) [hy1, hy2, r_with C k hk, hp, q]
    · have e : lo = hi := by omega
      subst e
      have := lm_uq C hk h4 h1 h5
      refine .inl ⟨by simp, lo, x, by rw [← this]⟩
  · rintro ρ' ⟨hi, x, rfl⟩
    exact sts_rt (.int (lm E rs new k hk)) (by simp) rfl
end
end K86
set_option Elab.async false
set_option linter.all false
set_option maxRecDepth 100000
set_option maxHeartbeats 1000000
/-! law k86: the least width, the widest case -/
namespace K86
open L2 TI
section
variable {E : List T} {rs : List Rl} {new : T}
theorem lw_spec (C : CO E rs new) {k : Nat} (hk : k < rs.length) {w0 : Nat} {a t : Bool} {mm : Nat} (hb : rs[k] = .bak w0 a t mm) : pc E (rs.set k ((rs[k]).ww (lw E rs new k hk w0))) new ≤ pc E rs new ∧ 1 ≤ lw E rs new k hk w0 ∧ lw E rs new k hk w0 ≤ w0 ∧ ∀ x, 1 ≤ x → x < lw E rs new k hk w0 → ¬ pc E (rs.set k ((rs[k]).ww x)) new ≤ pc E rs new := by
  have h0 := C.o rs[k] (List.getElem_mem hk)
  have e0 : (rs[k]).ww w0 = rs[k] := by rw [hb]; rfl
  have h0' : 1 ≤ w0 := by rw [hb] at h0; exact h0.2.2.1
  obtain ⟨h1, h2, h3, h4⟩ := lea_spec (p := fun w => decide (pc E (rs.set k ((rs[k]).ww w)) new ≤ pc E rs new)) (k := w0 - 1) (lo := 1) (by
    rw [decide_eq_true_eq, show 1 + (w0 - 1) = w0 by omega, e0, set_self hk]
    exact Nat.le_refl _)
  exact ⟨of_decide_eq_true h1, h2, by unfold lw; omega, fun x hx hx2 => of_decide_eq_false (h4 x hx hx2)⟩
theorem lw_uq (C : CO E rs new) {k : Nat} (hk : k < rs.length) {w0 : Nat} {a t : Bool} {mm : Nat} (hb : rs[k] = .bak w0 a t mm) {b : Nat} (h1 : pc E (rs.set k ((rs[k]).ww b)) new ≤ pc E rs new) (h2 : 1 ≤ b) (h3 : ∀ x, 1 ≤ x → x < b → ¬ pc E (rs.set k ((rs[k]).ww x)) new ≤ pc E rs new) : b = lw E rs new k hk w0 := by
  obtain ⟨g1, g2, _, g3⟩ := lw_spec C hk hb
  exact lea_uq (p := fun w => decide (pc E (rs.set k ((rs[k]).ww w)) new ≤ pc E rs new)) (lo := 1) (decide_eq_true h1) (decide_eq_true g1) h2 g2 (fun x a b => decide_eq_false (h3 x a b)) (fun x a b => decide_eq_false (g3 x a b))
theorem r_least_wide (C : CO E rs new) (k : Nat) (hk : k < rs.length) {w0 : Nat} {a t : Bool} {mm : Nat} (hb : rs[k] = .bak w0 a t mm) : s_least_wide [caseD E rs new, .int k] = pure (.int (lw E rs new k hk w0)) := by
  have hL := lineV
  have h0 : w0 ≤ 1000 ∧ 1 ≤ w0 := by
    have h0 := C.o rs[k] (List.getElem_mem hk)
    rw [hb] at h0
    exact ⟨h0.1, h0.2.2.1⟩
  have e0 : (rs[k]).ww w0 = rs[k] := by rw [hb]; rfl
  obtain ⟨x, y, hx1, hx2, hx3⟩ := ww_d w0 a t mm
  rw [← hb] at hx1 hx2
  unfold s_least_wide f_least_wide
  refine run_go rfl ?_
  refine sts_nx [.val (caseD E rs new), .val (.int k), .no, .no, .no, .no, .no] (by simp [r_check_ok C k hk]) ?_
  refine sts_nx [.val (caseD E rs new), .val (.int k), .val (rs[k]).d, .no, .no, .no, .no] (by simp [case_1, atI_n, hk]) ?_
  refine sts_nx [.val (caseD E rs new), .val (.int k), .val (rs[k]).d, .no, .no, .no, .no] (by rw [hb]; simp [Rl.d, at_0, sB_sB]) ?_
  refine sts_nx [.val (caseD E rs new), .val (.int k), .val (rs[k]).d, .val (.int (pc E rs new)), .no, .no, .no] (by simp [r_pieces C]) ?_
  refine sts_nx [.val (caseD E rs new), .val (.int k), .val (rs[k]).d, .val (.int (pc E rs new)), .val (.int 1), .no, .no] (by simp) ?_
  refine sts_nx [.val (caseD E rs new), .val (.int k), .val (rs[k]).d, .val (.int (pc E rs new)), .val (.int 1), .val (.int w0), .no] (by rw [hb]; simp [Rl.d, at_1]) ?_
  refine sts_whl (fun n ρ => ∃ (lo hi : Nat) (x : Sl), ρ = [.val (caseD E rs new), .val (.int k), .val (rs[k]).d, .val (.int (pc E rs new)), .val (.int lo), .val (.int hi), x] ∧ 1 ≤ lo ∧ lo ≤ hi ∧ hi ≤ 1000 ∧ pc E (rs.set k ((rs[k]).ww hi)) new ≤ pc E rs new ∧ (∀ x, 1 ≤ x → x < lo → ¬ pc E (rs.set k ((rs[k]).ww x)) new ≤ pc E rs new) ∧ n = hi - lo)
    (fun ρ => ∃ (hi : Nat) (x : Sl), ρ = [.val (caseD E rs new), .val (.int k), .val (rs[k]).d, .val (.int (pc E rs new)), .val (.int (lw E rs new k hk w0)), .val (.int hi), x]) (w0 - 1) ⟨1, w0, .no, rfl, by omega, by omega, by omega, by rw [e0, set_self hk]; exact Nat.le_refl _, fun x h1 h2 => by omega, rfl⟩ (by show _ < 1000000; omega) ?_ ?_
  · rintro n ρ ⟨lo, hi, x', rfl, h1, h2, h3, h4, h5, rfl⟩
    by_cases c : lo < hi
    · obtain ⟨mid, hm⟩ : ∃ mid, mid = (lo + hi) / 2 := ⟨_, rfl⟩
      have hmid : (((lo : Int) + hi) / 2) = (mid : Int) := by omega
      have hp := r_pieces (C.set k ((C.o _ (List.getElem_mem hk)).ww (w := mid) (by omega) (by omega)))
      obtain ⟨z, z1, z2⟩ := hx3 mid
      have ez : (Rl.bak mid a t mm) = (rs[k]).ww mid := by rw [hb]; rfl
      rw [ez] at z2
      by_cases q : pc E (rs.set k ((rs[k]).ww mid)) new ≤ pc E rs new
      · refine .inr ⟨[.val (caseD E rs new), .val (.int k), .val (rs[k]).d, .val (.int (pc E rs new)), .val (.int lo), .val (.int mid), .val (.int mid)], mid - lo, by simp [c], .inl ?_, by omega, lo, mid, _, rfl, h1, by omega, by omega, q, h5, rfl⟩
        refine sts_end ?_
        refine sts_nx [.val (caseD E rs new), .val (.int k), .val (rs[k]).d, .val (.int (pc E rs new)), .val (.int lo), .val (.int hi), .val (.int mid)] (by simp [hmid]) ?_
        refine sts_nx [.val (caseD E rs new), .val (.int k), .val (rs[k]).d, .val (.int (pc E rs new)), .val (.int lo), .val (.int mid), .val (.int mid)] ?_ (sts_nil rfl)
        simp (disch := first | assumption | omega) [hx1, hx2, z1, z2, r_with C k hk, hp, q]
      · refine .inr ⟨[.val (caseD E rs new), .val (.int k), .val (rs[k]).d, .val (.int (pc E rs new)), .val (.int (mid + 1 : Nat)), .val (.int hi), .val (.int mid)], hi - (mid + 1), by simp [c], .inl ?_, by omega, mid + 1, hi, _, rfl, by omega, by omega, h3, h4, fun x hx1 hx2 hx3 => q (Nat.le_trans (pc_wide hk (by omega)) hx3), rfl⟩
        refine sts_end ?_
        refine sts_nx [.val (caseD E rs new), .val (.int k), .val (rs[k]).d, .val (.int (pc E rs new)), .val (.int lo), .val (.int hi), .val (.int mid)] (by simp [hmid]) ?_
        refine sts_nx [.val (caseD E rs new), .val (.int k), .val (rs[k]).d, .val (.int (pc E rs new)), .val (.int (mid + 1 : Nat)), .val (.int hi), .val (.int mid)] ?_ (sts_nil rfl)
        simp (disch := first | assumption | omega) [hx1, hx2, z1, z2, r_with C k hk, hp, q]
    · have e : lo = hi := by omega
      subst e
      have := lw_uq C hk hb h4 h1 h5
      refine .inl ⟨by simp, lo, x', by rw [← this]⟩
  · rintro ρ' ⟨hi, x, rfl⟩
    exact sts_rt (.int (lw E rs new k hk w0)) (by simp) rfl
/-- all bounds as wide as can be -/
def Rl.top (r : Rl) : Rl := (r.ww 300).wm 300
theorem CO.top (C : CO E rs new) : CO E (rs.map Rl.top) new := ⟨C.n, C.t, C.e, by simpa using C.r, fun r hr => by
  obtain ⟨r0, h0, rfl⟩ := List.mem_map.mp hr
  exact ((C.o r0 h0).ww (by omega) (by omega)).wm (by omega) (by omega)⟩
theorem r_widest (C : CO E rs new) : s_widest_case [caseD E rs new] = pure (caseD E (rs.map Rl.top) new) := by
  have hL := lineV
  have hr := C.r
  unfold s_widest_case f_widest_case
  refine run_go rfl ?_
  refine sts_nx [.val (caseD E rs new), .val (.tup (E.map D.str)), .val (.tup (rs.map Rl.d)), .val (.str new), .no, .no] (by simp [caseD]) ?_
  refine sts_nx [.val (caseD E rs new), .val (.tup (E.map D.str)), .val (.tup (rs.map Rl.d)), .val (.str new), .own (.lst []), .no] (by simp) ?_
  refine sts_for (ds := rs.map Rl.d) [.val (caseD E rs new), .val (.tup (E.map D.str)), .val (.tup (rs.map Rl.d)), .val (.str new), .own (.lst []), .no] (by simp [itemsD]) (by simp [frz1])
    (fun i ρ => ∃ x, ρ = [.val (caseD E rs new), .val (.tup (E.map D.str)), .val (.tup (rs.map Rl.d)), .val (.str new), .own (.lst ((rs.take i).map fun r => (Rl.top r).d)), x]) ⟨.no, by simp⟩ ?_ ?_
  · rintro i hi ρ ⟨x, rfl⟩
    have hi' : i < rs.length := by simpa using hi
    refine ⟨[.val (caseD E rs new), .val (.tup (E.map D.str)), .val (.tup (rs.map Rl.d)), .val (.str new), .own (.lst ((rs.take (i + 1)).map fun r => (Rl.top r).d)), .val (rs[i]).d], .inl ?_, _, rfl⟩
    have hl : i < line := by omega
    have hmin : min i rs.length < line := by omega
    unfold forB
    simp only [List.getElem_map, bindT_nm, pure_bind]
    rw [List.take_succ_eq_append_getElem hi']
    refine sts_end ?_
    refine sts_nx [.val (caseD E rs new), .val (.tup (E.map D.str)), .val (.tup (rs.map Rl.d)), .val (.str new), .own (.lst (((rs.take i) ++ [rs[i]]).map fun r => (Rl.top r).d)), .val (rs[i]).d] ?_ (sts_nil rfl)
    have hpl : ((rs.take i).map fun r => (Rl.top r).d).length < line := by simp; omega
    rw [List.map_append]
    generalize (rs.take i).map (fun r => (Rl.top r).d) = pref at hpl ⊢
    generalize D.tup (rs.map Rl.d) = dr
    generalize rs[i] = r
    have l2 : (2 : Nat) ≤ line := by omega
    have l1 : (1 : Nat) ≤ line := by omega
    cases r with
    | eld e t m =>
      have b1 : binD .Add (.tup [.str ("elder" : PySem.Str).cps.toList, .int e, .bl t]) (.tup [.int 300]) = pure (.tup [.str ("elder" : PySem.Str).cps.toList, .int e, .bl t, .int 300]) := bin_addT (by simp; omega)
      simp [Rl.d, at_0, cut4, appD, hpl, Rl.top, Rl.wm, Rl.ww, l1, b1]
    | bak w a t m =>
      have b1 : binD .Add (.tup [.str ("back" : PySem.Str).cps.toList, .int 300]) (.tup [.bl a, .bl t]) = pure (.tup [.str ("back" : PySem.Str).cps.toList, .int 300, .bl a, .bl t]) := bin_addT (by simp; omega)
      have b2 : binD .Add (.tup [.str ("back" : PySem.Str).cps.toList, .int 300, .bl a, .bl t]) (.tup [.int 300]) = pure (.tup [.str ("back" : PySem.Str).cps.toList, .int 300, .bl a, .bl t, .int 300]) := bin_addT (by simp; omega)
      simp [Rl.d, at_0, nBE, cut5c, appD, hpl, Rl.top, Rl.wm, Rl.ww, l1, l2, b1, b2]
  · rintro ρ' ⟨x, rfl⟩
    refine sts_rt (caseD E (rs.map Rl.top) new) ?_ rfl
    simp (disch := first | assumption | omega) [bltD, caseD]
    rfl
theorem r_lost (C : CO E rs new) : s_lost_by_bounds [caseD E rs new] = pure (.int ((pc E rs new : Int) - pc E (rs.map Rl.top) new)) := by
  unfold s_lost_by_bounds f_lost_by_bounds
  rw [run_eq rfl]
  simp [r_pieces C, r_widest C, r_pieces C.top]
end
end K86
set_option Elab.async false
set_option linter.all false
set_option maxRecDepth 100000
set_option maxHeartbeats 1000000
/-! law k86: the law's own runs -/
namespace TI
theorem sts_bk {α : Type} {s : St} {ss : Sts} {ρ ρ' : List Sl} {f : Out → M α} {r : M α} (h : exS s ρ = pure (.bk ρ')) (k : f (.bk ρ') = r) : (exSs (.cons s ss) ρ >>= f) = r := by
  rw [exSs_cons, h]; exact k
end TI
namespace K86
open L2 TI
/-- two signs, as texts of one sign -/
theorem sg_eq {t u : T} {i j : Nat} (hi : i < t.length) (hj : j < u.length) : ((([t[i]] : T) == [u[j]]) = (t[i]? == u[j]?)) := by
  rw [List.getElem?_eq_getElem hi, List.getElem?_eq_getElem hj]
  by_cases h : t[i] = u[j] <;> simp [h]
section
variable (text new : T) (f k w : Nat) (back apart : Bool)
def pB (x : Nat) : Bool := (text[k + x]? == new[f + x]?) && (!back || decide (k < f ∧ f ≤ k + w ∧ (apart = true → k + x < f)))
def tB (x : Nat) : Bool := (decide (x ≤ k) && (text[k - x]? == new[f + x]?)) && (!back || decide (k < f ∧ f + 2 * x ≤ k + w))
variable {text new f k w back apart}
theorem r_plain (hf : f < new.length) (hn : new.length ≤ 1000) (ht : text.length ≤ 1000) (hk : k ≤ 1000) (hw : w ≤ 1000) :
    s__law_plain_run [.str text, .str new, .int f, .int k, .bl back, .int w, .bl apart] = pure (.int (pre (pB text new f k w back apart) (new.length - f))) := by
  have hL := lineV
  unfold s__law_plain_run f__law_plain_run
  refine run_go rfl ?_
  refine sts_nx [.val (.str text), .val (.str new), .val (.int f), .val (.int k), .val (.bl back), .val (.int w), .val (.bl apart), .val (.int 0), .no, .no] (by simp) ?_
  refine sts_forx (ds := (List.range (new.length - f)).map fun j : Nat => D.int j) [.val (.str text), .val (.str new), .val (.int f), .val (.int k), .val (.bl back), .val (.int w), .val (.bl apart), .val (.int 0), .no, .no] ?_ rfl
    (fun i ρ => ∃ x y, ρ = [.val (.str text), .val (.str new), .val (.int f), .val (.int k), .val (.bl back), .val (.int w), .val (.bl apart), .val (.int i), x, y] ∧ ∀ j, j < i → pB text new f k w back apart j = true)
    (fun u => ∃ x y, u = .nx [.val (.str text), .val (.str new), .val (.int f), .val (.int k), .val (.bl back), .val (.int w), .val (.bl apart), .val (.int (pre (pB text new f k w back apart) (new.length - f))), x, y]) ⟨.no, .no, rfl, fun j hj => by omega⟩ ?_ ?_
  · have := rng_nat (n := new.length - f) (by omega)
    rw [show ((new.length - f : Nat) : Int) = (new.length : Int) - f by omega] at this
    simp (disch := first | assumption | omega) [this]
  · rintro i hi ρ ⟨x, y, rfl, hj⟩
    simp only [List.length_map, List.length_range] at hi
    have fin : ∀ (h : pB text new f k w back apart i = false), pre (pB text new f k w back apart) (new.length - f) = i := fun h => pre_eq (by omega) hj (.inr h)
    unfold forB
    simp only [List.getElem_map, List.getElem_range, bindT_nm, pure_bind]
    have hfi : f + i < new.length := by omega
    have e1 : subD (.str new) (.int ((f : Int) + (i : Int))) = pure (.str [new[f + i]]) := by
      rw [show ((f : Int) + (i : Int)) = ((f + i : Nat) : Int) by omega]
      exact sub_strN hfi (by omega)
    obtain ⟨P, hP⟩ : ∃ P : Int, P = (k : Int) + i := ⟨_, rfl⟩
    have first : exS (.set 0 9 (.bin .Add (.var 3) (.var 8))) [.val (.str text), .val (.str new), .val (.int f), .val (.int k), .val (.bl back), .val (.int w), .val (.bl apart), .val (.int i), .val (.int i), y] = pure (.nx [.val (.str text), .val (.str new), .val (.int f), .val (.int k), .val (.bl back), .val (.int w), .val (.bl apart), .val (.int i), .val (.int i), .val (.int P)]) := by
      rw [hP]; simp
    by_cases c1 : k + i < text.length
    · have e2 : subD (.str text) (.int P) = pure (.str [text[k + i]]) := by
        rw [hP, show ((k : Int) + (i : Int)) = ((k + i : Nat) : Int) by omega]
        exact sub_strN c1 (by omega)
      have c1' : ¬ ((text.length : Int) ≤ P) := by omega
      have sg := sg_eq (i := k + i) (j := f + i) c1 hfi
      by_cases c2 : text[k + i] = new[f + i]
      · have hx : (text[k + i]? == new[f + i]?) = true := by rw [← sg]; simp [c2]
        by_cases c3 : back = true ∧ ¬ (k < f ∧ f ≤ k + w ∧ (apart = true → k + i < f))
        · obtain ⟨hb, c3⟩ := c3
          subst hb
          have c3t : apart = true → ¬ (k < f ∧ f ≤ k + w ∧ k + i < f) := fun z y => c3 ⟨y.1, y.2.1, fun _ => y.2.2⟩
          have c3f : apart = false → ¬ (k < f ∧ f ≤ k + w) := fun z y => c3 ⟨y.1, y.2, fun z2 => by rw [z] at z2; cases z2⟩
          have hp0 : pB text new f k w true apart i = false := by
            simp only [pB, hx, Bool.true_and, Bool.not_true, Bool.false_or]
            exact decide_eq_false c3
          refine ⟨.bk [.val (.str text), .val (.str new), .val (.int f), .val (.int k), .val (.bl true), .val (.int w), .val (.bl apart), .val (.int i), .val (.int i), .val (.int P)], sts_end (sts_nx [.val (.str text), .val (.str new), .val (.int f), .val (.int k), .val (.bl true), .val (.int w), .val (.bl apart), .val (.int i), .val (.int i), .val (.int P)] first (sts_nx [.val (.str text), .val (.str new), .val (.int f), .val (.int k), .val (.bl true), .val (.int w), .val (.bl apart), .val (.int i), .val (.int i), .val (.int P)] ?_ (sts_bk (ρ' := [.val (.str text), .val (.str new), .val (.int f), .val (.int k), .val (.bl true), .val (.int w), .val (.bl apart), .val (.int i), .val (.int i), .val (.int P)]) ?_ rfl))), _, _, by rw [fin hp0]⟩
          · simp (disch := first | assumption | omega) [e1, e2, c1', c2]
          · by_cases q1 : (f : Int) + i ≤ P <;> by_cases q2 : P < (f : Int) + i - w <;> by_cases q3 : (f : Int) ≤ P <;> cases apart <;> first | (exfalso; have := c3f rfl; omega) | (exfalso; have := c3t rfl; omega) | simp [q1, q2, q3]
        · have c3' : back = true → (k < f ∧ f ≤ k + w ∧ (apart = true → k + i < f)) := fun b => Decidable.byContradiction fun z => c3 ⟨b, z⟩
          have hp1 : pB text new f k w back apart i = true := by
            simp only [pB, hx, Bool.true_and]
            cases back with
            | false => rfl
            | true => exact decide_eq_true (c3' rfl)
          refine ⟨.nx [.val (.str text), .val (.str new), .val (.int f), .val (.int k), .val (.bl back), .val (.int w), .val (.bl apart), .val (.int (i + 1 : Nat)), .val (.int i), .val (.int P)], sts_end (sts_nx [.val (.str text), .val (.str new), .val (.int f), .val (.int k), .val (.bl back), .val (.int w), .val (.bl apart), .val (.int i), .val (.int i), .val (.int P)] first (sts_nx [.val (.str text), .val (.str new), .val (.int f), .val (.int k), .val (.bl back), .val (.int w), .val (.bl apart), .val (.int i), .val (.int i), .val (.int P)] ?_ (sts_nx [.val (.str text), .val (.str new), .val (.int f), .val (.int k), .val (.bl back), .val (.int w), .val (.bl apart), .val (.int i), .val (.int i), .val (.int P)] ?_ (sts_nx [.val (.str text), .val (.str new), .val (.int f), .val (.int k), .val (.bl back), .val (.int w), .val (.bl apart), .val (.int (i + 1 : Nat)), .val (.int i), .val (.int P)] (by simp) (sts_nil rfl))))), _, _, rfl, fun j hji => ?_⟩
          · simp (disch := first | assumption | omega) [e1, e2, c1', c2]
          · cases back with
            | false => simp
            | true =>
              obtain ⟨d1, d2, d3⟩ := c3' rfl
              have q1 : ¬ (f : Int) + i ≤ P := by omega
              have q2 : ¬ P < (f : Int) + i - w := by omega
              cases apart with
              | false => simp [q1, q2]
              | true =>
                have q3 : ¬ (f : Int) ≤ P := by have := d3 rfl; omega
                simp [q1, q2, q3]
          · by_cases z : j = i
            · subst z; exact hp1
            · exact hj j (by omega)
      · have hx : (text[k + i]? == new[f + i]?) = false := by rw [← sg]; simp [c2]
        refine ⟨.bk [.val (.str text), .val (.str new), .val (.int f), .val (.int k), .val (.bl back), .val (.int w), .val (.bl apart), .val (.int i), .val (.int i), .val (.int P)], sts_end (sts_nx [.val (.str text), .val (.str new), .val (.int f), .val (.int k), .val (.bl back), .val (.int w), .val (.bl apart), .val (.int i), .val (.int i), .val (.int P)] first (sts_bk (ρ' := [.val (.str text), .val (.str new), .val (.int f), .val (.int k), .val (.bl back), .val (.int w), .val (.bl apart), .val (.int i), .val (.int i), .val (.int P)]) ?_ rfl)), _, _, by rw [fin (by simp [pB, hx])]⟩
        simp (disch := first | assumption | omega) [e1, e2, c1', c2]
    · have c1' : (text.length : Int) ≤ P := by omega
      have hx : (text[k + i]? == new[f + i]?) = false := by
        rw [List.getElem?_eq_none (by omega), List.getElem?_eq_getElem hfi]; rfl
      refine ⟨.bk [.val (.str text), .val (.str new), .val (.int f), .val (.int k), .val (.bl back), .val (.int w), .val (.bl apart), .val (.int i), .val (.int i), .val (.int P)], sts_end (sts_nx [.val (.str text), .val (.str new), .val (.int f), .val (.int k), .val (.bl back), .val (.int w), .val (.bl apart), .val (.int i), .val (.int i), .val (.int P)] first (sts_bk (ρ' := [.val (.str text), .val (.str new), .val (.int f), .val (.int k), .val (.bl back), .val (.int w), .val (.bl apart), .val (.int i), .val (.int i), .val (.int P)]) ?_ rfl)), _, _, by rw [fin (by simp [pB, hx])]⟩
      simp (disch := first | assumption | omega) [c1']
  · rintro u (⟨x, y, rfl⟩ | ⟨ρ', rfl, x, y, rfl, hj⟩)
    · exact sts_rt (.int (pre (pB text new f k w back apart) (new.length - f))) (by simp) rfl
    · have : pre (pB text new f k w back apart) (new.length - f) = new.length - f := pre_eq (Nat.le_refl _) (fun x hx => hj x (by simpa using hx)) (.inl rfl)
      rw [this]
      exact sts_rt (.int (new.length - f : Nat)) (by simp) rfl
end
end K86
set_option Elab.async false
set_option linter.all false
set_option maxRecDepth 100000
set_option maxHeartbeats 1000000
/-! law k86: the law's own turned runs; all runs of a rule -/
namespace K86
open L2 TI
section
variable {text new : T} {f k w : Nat} {back : Bool}
theorem r_turned (hf : f < new.length) (hn : new.length ≤ 1000) (ht : text.length ≤ 1000) (hk : k < text.length) (hw : w ≤ 1000) (hb0 : back = true → k < f) :
    s__law_turned_run [.str text, .str new, .int f, .int k, .bl back, .int w] = pure (.int (pre (tB text new f k w back) (new.length - f))) := by
  have hL := lineV
  unfold s__law_turned_run f__law_turned_run
  refine run_go rfl ?_
  refine sts_nx [.val (.str text), .val (.str new), .val (.int f), .val (.int k), .val (.bl back), .val (.int w), .val (.int 0), .no, .no] (by simp) ?_
  refine sts_forx (ds := (List.range (new.length - f)).map fun j : Nat => D.int j) [.val (.str text), .val (.str new), .val (.int f), .val (.int k), .val (.bl back), .val (.int w), .val (.int 0), .no, .no] ?_ rfl
    (fun i ρ => ∃ x y, ρ = [.val (.str text), .val (.str new), .val (.int f), .val (.int k), .val (.bl back), .val (.int w), .val (.int i), x, y] ∧ ∀ j, j < i → tB text new f k w back j = true)
    (fun u => ∃ x y, u = .nx [.val (.str text), .val (.str new), .val (.int f), .val (.int k), .val (.bl back), .val (.int w), .val (.int (pre (tB text new f k w back) (new.length - f))), x, y]) ⟨.no, .no, rfl, fun j hj => by omega⟩ ?_ ?_
  · have := rng_nat (n := new.length - f) (by omega)
    rw [show ((new.length - f : Nat) : Int) = (new.length : Int) - f by omega] at this
    simp (disch := first | assumption | omega) [this]
  · rintro i hi ρ ⟨x, y, rfl, hj⟩
    simp only [List.length_map, List.length_range] at hi
    have fin : ∀ (h : tB text new f k w back i = false), pre (tB text new f k w back) (new.length - f) = i := fun h => pre_eq (by omega) hj (.inr h)
    unfold forB
    simp only [List.getElem_map, List.getElem_range, bindT_nm, pure_bind]
    have hfi : f + i < new.length := by omega
    have e1 : subD (.str new) (.int ((f : Int) + (i : Int))) = pure (.str [new[f + i]]) := by
      rw [show ((f : Int) + (i : Int)) = ((f + i : Nat) : Int) by omega]
      exact sub_strN hfi (by omega)
    obtain ⟨P, hP⟩ : ∃ P : Int, P = (k : Int) - i := ⟨_, rfl⟩
    have first : exS (.set 0 8 (.bin .Sub (.var 3) (.var 7))) [.val (.str text), .val (.str new), .val (.int f), .val (.int k), .val (.bl back), .val (.int w), .val (.int i), .val (.int i), y] = pure (.nx [.val (.str text), .val (.str new), .val (.int f), .val (.int k), .val (.bl back), .val (.int w), .val (.int i), .val (.int i), .val (.int P)]) := by
      rw [hP]; simp
    by_cases c1 : i ≤ k
    · have c0 : k - i < text.length := by omega
      have e2 : subD (.str text) (.int P) = pure (.str [text[k - i]]) := by
        rw [hP, show ((k : Int) - (i : Int)) = ((k - i : Nat) : Int) by omega]
        exact sub_strN c0 (by omega)
      have c1' : ¬ (P < 0) := by omega
      have sg := sg_eq (i := k - i) (j := f + i) c0 hfi
      by_cases c2 : text[k - i] = new[f + i]
      · have hx : (text[k - i]? == new[f + i]?) = true := by rw [← sg]; simp [c2]
        by_cases c3 : back = true ∧ ¬ (k < f ∧ f + 2 * i ≤ k + w)
        · obtain ⟨hb, c3⟩ := c3
          subst hb
          have hb0 := hb0 rfl
          have hp0 : tB text new f k w true i = false := by
            simp only [tB, hx, decide_eq_true c1, Bool.true_and, Bool.not_true, Bool.false_or]
            exact decide_eq_false c3
          refine ⟨.bk [.val (.str text), .val (.str new), .val (.int f), .val (.int k), .val (.bl true), .val (.int w), .val (.int i), .val (.int i), .val (.int P)], sts_end (sts_nx [.val (.str text), .val (.str new), .val (.int f), .val (.int k), .val (.bl true), .val (.int w), .val (.int i), .val (.int i), .val (.int P)] first (sts_nx [.val (.str text), .val (.str new), .val (.int f), .val (.int k), .val (.bl true), .val (.int w), .val (.int i), .val (.int i), .val (.int P)] ?_ (sts_bk (ρ' := [.val (.str text), .val (.str new), .val (.int f), .val (.int k), .val (.bl true), .val (.int w), .val (.int i), .val (.int i), .val (.int P)]) ?_ rfl))), _, _, by rw [fin hp0]⟩
          · simp (disch := first | assumption | omega) [e1, e2, c1', c2]
          · by_cases q1 : (f : Int) + i ≤ P <;> by_cases q2 : P < (f : Int) + i - w <;> first | (exfalso; omega) | simp [q1, q2]
        · have c3' : back = true → (k < f ∧ f + 2 * i ≤ k + w) := fun b => Decidable.byContradiction fun z => c3 ⟨b, z⟩
          have hp1 : tB text new f k w back i = true := by
            simp only [tB, hx, decide_eq_true c1, Bool.true_and]
            cases back with
            | false => rfl
            | true => exact decide_eq_true (c3' rfl)
          refine ⟨.nx [.val (.str text), .val (.str new), .val (.int f), .val (.int k), .val (.bl back), .val (.int w), .val (.int (i + 1 : Nat)), .val (.int i), .val (.int P)], sts_end (sts_nx [.val (.str text), .val (.str new), .val (.int f), .val (.int k), .val (.bl back), .val (.int w), .val (.int i), .val (.int i), .val (.int P)] first (sts_nx [.val (.str text), .val (.str new), .val (.int f), .val (.int k), .val (.bl back), .val (.int w), .val (.int i), .val (.int i), .val (.int P)] ?_ (sts_nx [.val (.str text), .val (.str new), .val (.int f), .val (.int k), .val (.bl back), .val (.int w), .val (.int i), .val (.int i), .val (.int P)] ?_ (sts_nx [.val (.str text), .val (.str new), .val (.int f), .val (.int k), .val (.bl back), .val (.int w), .val (.int (i + 1 : Nat)), .val (.int i), .val (.int P)] (by simp) (sts_nil rfl))))), _, _, rfl, fun j hji => ?_⟩
          · simp (disch := first | assumption | omega) [e1, e2, c1', c2]
          · cases back with
            | false => simp
            | true =>
              obtain ⟨d1, d2⟩ := c3' rfl
              have q1 : ¬ (f : Int) + i ≤ P := by omega
              have q2 : ¬ P < (f : Int) + i - w := by omega
              simp [q1, q2]
          · by_cases z : j = i
            · subst z; exact hp1
            · exact hj j (by omega)
      · have hx : (text[k - i]? == new[f + i]?) = false := by rw [← sg]; simp [c2]
        refine ⟨.bk [.val (.str text), .val (.str new), .val (.int f), .val (.int k), .val (.bl back), .val (.int w), .val (.int i), .val (.int i), .val (.int P)], sts_end (sts_nx [.val (.str text), .val (.str new), .val (.int f), .val (.int k), .val (.bl back), .val (.int w), .val (.int i), .val (.int i), .val (.int P)] first (sts_bk (ρ' := [.val (.str text), .val (.str new), .val (.int f), .val (.int k), .val (.bl back), .val (.int w), .val (.int i), .val (.int i), .val (.int P)]) ?_ rfl)), _, _, by rw [fin (by simp [tB, hx])]⟩
        simp (disch := first | assumption | omega) [e1, e2, c1', c2]
    · have c1' : P < 0 := by omega
      refine ⟨.bk [.val (.str text), .val (.str new), .val (.int f), .val (.int k), .val (.bl back), .val (.int w), .val (.int i), .val (.int i), .val (.int P)], sts_end (sts_nx [.val (.str text), .val (.str new), .val (.int f), .val (.int k), .val (.bl back), .val (.int w), .val (.int i), .val (.int i), .val (.int P)] first (sts_bk (ρ' := [.val (.str text), .val (.str new), .val (.int f), .val (.int k), .val (.bl back), .val (.int w), .val (.int i), .val (.int i), .val (.int P)]) ?_ rfl)), _, _, by rw [fin (by simp [tB, c1])]⟩
      simp (disch := first | assumption | omega) [c1']
  · rintro u (⟨x, y, rfl⟩ | ⟨ρ', rfl, x, y, rfl, hj⟩)
    · exact sts_rt (.int (pre (tB text new f k w back) (new.length - f))) (by simp) rfl
    · have : pre (tB text new f k w back) (new.length - f) = new.length - f := pre_eq (Nat.le_refl _) (fun x hx => hj x (by simpa using hx)) (.inl rfl)
      rw [this]
      exact sts_rt (.int (new.length - f : Nat)) (by simp) rfl
end
/-- the runs of a rule -/
def runs (E : List T) (new : T) (r : Rl) : List Nat := (List.range new.length).map (Rn E new r)
theorem Rn_take {E : List T} {new : T} {r : Rl} {f i : Nat} (hi : i < (txtOf E new r).length) : mx 0 ((List.range (i + 1)).map fun k => pre (cB E new r f k) (new.length - f)) = max (mx 0 ((List.range i).map fun k => pre (cB E new r f k) (new.length - f))) (pre (cB E new r f i) (new.length - f)) := by
  rw [List.range_succ, List.map_append]
  unfold mx
  rw [List.foldl_append]
  rfl
theorem pre_congr {p q : Nat → Bool} {n : Nat} (h : ∀ x, x < n → p x = q x) : pre p n = pre q n := by
  apply Nat.le_antisymm
  · have := le_pre.mp (Nat.le_refl (pre p n))
    exact le_pre.mpr ⟨this.1, fun x hx => by rw [← h x (by omega)]; exact this.2 x hx⟩
  · have := le_pre.mp (Nat.le_refl (pre q n))
    exact le_pre.mpr ⟨this.1, fun x hx => by rw [h x (by omega)]; exact this.2 x hx⟩
theorem pre_zero {p : Nat → Bool} {n : Nat} (h : p 0 = false) : pre p n = 0 := pre_eq (Nat.zero_le _) (fun x hx => by omega) (.inr h)
end K86
set_option Elab.async false
set_option linter.all false
set_option maxRecDepth 100000
set_option maxHeartbeats 1000000
/-! law k86: all runs of a rule -/
namespace K86
open L2 TI
def Rl.bk : Rl → Bool
  | .eld _ _ _ => false
  | .bak _ _ _ _ => true
def Rl.wd : Rl → Nat
  | .eld _ _ _ => 0
  | .bak w _ _ _ => w
def Rl.ap : Rl → Bool
  | .eld _ _ _ => false
  | .bak _ a _ _ => a
theorem cB_p {E : List T} {new : T} {r : Rl} (h : r.turn = false) {f k : Nat} : cB E new r f k = pB (txtOf E new r) new f k r.wd r.bk r.ap := by
  funext x
  cases r with
  | eld e t m =>
    have h : t = false := h
    subst h
    simp [cB, pB, txtOf, Rl.bk, Rl.wd, Rl.ap]
  | bak w a t m =>
    have h : t = false := h
    subst h
    rfl
theorem cB_t {E : List T} {new : T} {r : Rl} (h : r.turn = true) {f k : Nat} : cB E new r f k = tB (txtOf E new r) new f k r.wd r.bk := by
  funext x
  cases r with
  | eld e t m =>
    have h : t = true := h
    subst h
    simp [cB, tB, txtOf, Rl.bk, Rl.wd]
  | bak w a t m =>
    have h : t = true := h
    subst h
    rfl
theorem nEBb : ((("elder" : PySem.Str).cps == ("back" : PySem.Str).cps) : Bool) = false := by decide
theorem maxI_nat (a b : Nat) : bltD .max [.int (a : Int), .int (b : Int)] = pure (.int (max a b : Nat)) := by
  show (pure (D.int (if (b : Int) > a then (b : Int) else a)) : M D) = _
  congr 2
  split <;> omega
theorem r_runs {E : List T} {rs : List Rl} {new : T} (C : CO E rs new) (r : Rl) (ho : RO E r) : s__law_runs [caseD E rs new, r.d] = pure (.lst (nD (runs E new r))) := by
  have hL := lineV
  have hn := C.n
  have htx : (txtOf E new r).length ≤ 1000 := by
    cases r with
    | eld e t m =>
      have he : e < E.length := ho.1
      show (E.getD e []).length ≤ 1000
      rw [List.getD_eq_getElem?_getD, List.getElem?_eq_getElem he]
      exact C.t _ (List.getElem_mem he)
    | bak w a t m => exact hn
  have hwd : r.wd ≤ 1000 := by
    cases r with
    | eld e t m => exact Nat.zero_le _
    | bak w a t m => exact ho.1
  unfold s__law_runs f__law_runs
  refine run_go rfl ?_
  refine sts_nx [.val (caseD E rs new), .val r.d, .val (.str new), .no, .no, .no, .no, .no, .no, .no, .no, .no] (by simp [case_2]) ?_
  refine sts_nx [.val (caseD E rs new), .val r.d, .val (.str new), .val (.bl r.bk), .no, .no, .no, .no, .no, .no, .no, .no] (by cases r <;> simp [Rl.d, at_0, nEBb, Rl.bk]) ?_
  refine sts_nx [.val (caseD E rs new), .val r.d, .val (.str new), .val (.bl r.bk), .val (.str new), .no, .no, .no, .no, .no, .no, .no] (by simp) ?_
  refine sts_nx [.val (caseD E rs new), .val r.d, .val (.str new), .val (.bl r.bk), .val (.str new), .val (.int 0), .no, .no, .no, .no, .no, .no] (by simp) ?_
  refine sts_nx [.val (caseD E rs new), .val r.d, .val (.str new), .val (.bl r.bk), .val (.str new), .val (.int 0), .val (.bl false), .no, .no, .no, .no, .no] (by simp) ?_
  obtain ⟨tb, htb⟩ : ∃ tb : Bool, subD r.d (.int 2) = pure (.bl tb) := by
    cases r with
    | eld e t m => exact ⟨t, by simp [Rl.d, at_2]⟩
    | bak w a t m => exact ⟨a, by simp [Rl.d, at_2]⟩
  refine sts_nx [.val (caseD E rs new), .val r.d, .val (.str new), .val (.bl r.bk), .val (.str new), .val (.int 0), .val (.bl false), .val (.bl tb), .no, .no, .no, .no] (by simp [htb]) ?_
  refine sts_nx [.val (caseD E rs new), .val r.d, .val (.str new), .val (.bl r.bk), .val (.str (txtOf E new r)), .val (.int r.wd), .val (.bl r.ap), .val (.bl r.turn), .no, .no, .no, .no] ?_ ?_
  · cases r with
    | eld e t m =>
      have he : e < E.length := ho.1
      have ht : t = tb := by
        have e1 : subD (Rl.eld e t m).d (.int 2) = pure (.bl t) := by simp [Rl.d, at_2]
        rw [e1] at htb
        have := congrFun htb []
        simp [pure, M.ret] at this
        exact this
      subst ht
      simp [Rl.bk, Rl.wd, Rl.ap, Rl.turn, txtOf, case_0, Rl.d, at_1, atI_n, he]
    | bak w a t m => simp [Rl.bk, Rl.wd, Rl.ap, Rl.turn, txtOf, Rl.d, at_1, at_2, at_3]
  refine sts_nx [.val (caseD E rs new), .val r.d, .val (.str new), .val (.bl r.bk), .val (.str (txtOf E new r)), .val (.int r.wd), .val (.bl r.ap), .val (.bl r.turn), .own (.lst []), .no, .no, .no] (by simp) ?_
  refine sts_for (ds := (List.range new.length).map fun j : Nat => D.int j) [.val (caseD E rs new), .val r.d, .val (.str new), .val (.bl r.bk), .val (.str (txtOf E new r)), .val (.int r.wd), .val (.bl r.ap), .val (.bl r.turn), .own (.lst []), .no, .no, .no] (by simp (disch := first | assumption | omega); exact rng_nat (by omega)) rfl
    (fun i ρ => ∃ x y z, ρ = [.val (caseD E rs new), .val r.d, .val (.str new), .val (.bl r.bk), .val (.str (txtOf E new r)), .val (.int r.wd), .val (.bl r.ap), .val (.bl r.turn), .own (.lst (nD ((List.range i).map (Rn E new r)))), x, y, z]) ⟨.no, .no, .no, rfl⟩ ?_ ?_
  · rintro f hf ρ ⟨x, y, z, rfl⟩
    simp only [List.length_map, List.length_range] at hf
    unfold forB
    simp only [List.getElem_map, List.getElem_range, bindT_nm, pure_bind]
    refine ⟨[.val (caseD E rs new), .val r.d, .val (.str new), .val (.bl r.bk), .val (.str (txtOf E new r)), .val (.int r.wd), .val (.bl r.ap), .val (.bl r.turn), .own (.lst (nD ((List.range (f + 1)).map (Rn E new r)))), .val (.int f), .val (.int (Rn E new r f)), if (txtOf E new r).length = 0 then z else .val (.int ((txtOf E new r).length - 1 : Nat))], .inl ?_, _, _, _, rfl⟩
    refine sts_end ?_
    refine sts_nx [.val (caseD E rs new), .val r.d, .val (.str new), .val (.bl r.bk), .val (.str (txtOf E new r)), .val (.int r.wd), .val (.bl r.ap), .val (.bl r.turn), .own (.lst (nD ((List.range f).map (Rn E new r)))), .val (.int f), .val (.int 0), z] (by simp) ?_
    refine sts_for (ds := (List.range (txtOf E new r).length).map fun j : Nat => D.int j) [.val (caseD E rs new), .val r.d, .val (.str new), .val (.bl r.bk), .val (.str (txtOf E new r)), .val (.int r.wd), .val (.bl r.ap), .val (.bl r.turn), .own (.lst (nD ((List.range f).map (Rn E new r)))), .val (.int f), .val (.int 0), z] (by simp (disch := first | assumption | omega); exact rng_nat (by omega)) rfl
      (fun i ρ => ρ = [.val (caseD E rs new), .val r.d, .val (.str new), .val (.bl r.bk), .val (.str (txtOf E new r)), .val (.int r.wd), .val (.bl r.ap), .val (.bl r.turn), .own (.lst (nD ((List.range f).map (Rn E new r)))), .val (.int f), .val (.int (mx 0 ((List.range i).map fun k => pre (cB E new r f k) (new.length - f)) : Nat)), if i = 0 then z else .val (.int (i - 1 : Nat))]) rfl ?_ ?_
    · rintro k hk ρ rfl
      simp only [List.length_map, List.length_range] at hk
      refine ⟨[.val (caseD E rs new), .val r.d, .val (.str new), .val (.bl r.bk), .val (.str (txtOf E new r)), .val (.int r.wd), .val (.bl r.ap), .val (.bl r.turn), .own (.lst (nD ((List.range f).map (Rn E new r)))), .val (.int f), .val (.int (mx 0 ((List.range (k + 1)).map fun k => pre (cB E new r f k) (new.length - f)) : Nat)), .val (.int k)], .inl ?_, by simp⟩
      rw [Rn_take hk]
      generalize mx 0 ((List.range k).map fun k => pre (cB E new r f k) (new.length - f)) = a
      unfold forB
      simp only [List.getElem_map, List.getElem_range, bindT_nm, pure_bind]
      cases ht : r.turn with
      | false =>
        have hp := r_plain (text := txtOf E new r) (new := new) (f := f) (k := k) (w := r.wd) (back := r.bk) (apart := r.ap) hf hn htx (by omega) hwd
        rw [← cB_p (E := E) ht] at hp
        generalize pre (cB E new r f k) (new.length - f) = p at hp ⊢
        have hm : (if a < p then (p : Int) else (a : Int)) = ((max a p : Nat) : Int) := by split <;> omega
        simp [hp, hm]
      | true =>
        by_cases q : r.bk = true ∧ f ≤ k
        · obtain ⟨q1, q2⟩ := q
          have hz : pre (cB E new r f k) (new.length - f) = 0 := by
            apply pre_zero
            rw [cB_t ht, q1]
            have : ¬ k < f := by omega
            simp [tB, this]
          rw [hz, Nat.max_zero]
          simp [q1, q2]
        · have q' : r.bk = true → k < f := fun b => Decidable.byContradiction fun h => q ⟨b, by omega⟩
          have hp := r_turned (text := txtOf E new r) (new := new) (f := f) (k := k) (w := r.wd) (back := r.bk) hf hn htx hk hwd q'
          rw [← cB_t (E := E) ht] at hp
          generalize pre (cB E new r f k) (new.length - f) = p at hp ⊢
          have hm : (if a < p then (p : Int) else (a : Int)) = ((max a p : Nat) : Int) := by split <;> omega
          cases hbk : r.bk with
          | false =>
            rw [hbk] at hp
            simp [hp, hm]
          | true =>
            rw [hbk] at hp
            have : ¬ f ≤ k := by have := q' hbk; omega
            simp [hp, hm, this]
    · rintro ρ' rfl
      simp only [List.length_map, List.length_range]
      refine sts_nx [.val (caseD E rs new), .val r.d, .val (.str new), .val (.bl r.bk), .val (.str (txtOf E new r)), .val (.int r.wd), .val (.bl r.ap), .val (.bl r.turn), .own (.lst (nD ((List.range (f + 1)).map (Rn E new r)))), .val (.int f), .val (.int (Rn E new r f)), if (txtOf E new r).length = 0 then z else .val (.int ((txtOf E new r).length - 1 : Nat))] ?_ (sts_nil rfl)
      have hl : f < line := by omega
      simp [appD, hl, nD, List.range_succ, Rn]
  · rintro ρ' ⟨x, y, z, rfl⟩
    refine sts_rt (.lst (nD (runs E new r))) ?_ rfl
    simp [runs]
end K86
set_option Elab.async false
set_option linter.all false
set_option maxRecDepth 100000
set_option maxHeartbeats 1000000
/-! law k86: the law's own reach, cuts, pieces -/
namespace K86
open L2 TI
section
variable {E : List T} {rs : List Rl} {new : T}
def rowsD (E : List T) (new : T) (rs : List Rl) : D := .lst (rs.map fun r => D.lst (nD (runs E new r)))
def mostsD (rs : List Rl) : D := .lst (nD (rs.map Rl.most))
theorem mx_take {l : List Nat} {s i : Nat} (hi : i < l.length) : mx s (l.take (i + 1)) = max (mx s (l.take i)) l[i] := by
  rw [List.take_succ_eq_append_getElem hi]
  unfold mx
  rw [List.foldl_append]
  rfl
theorem r_law_reach (hn : new.length ≤ 1000) (hr : rs.length ≤ 1000) : s__law_reach [.int new.length, rowsD E new rs, mostsD rs] = pure (.lst (nD ((List.range new.length).map (Re E new rs)))) := by
  have hL := lineV
  unfold s__law_reach f__law_reach
  refine run_go rfl ?_
  refine sts_nx [.val (.int new.length), .val (rowsD E new rs), .val (mostsD rs), .own (.lst []), .no, .no, .no] (by simp) ?_
  refine sts_for (ds := (List.range new.length).map fun j : Nat => D.int j) [.val (.int new.length), .val (rowsD E new rs), .val (mostsD rs), .own (.lst []), .no, .no, .no] (by simp (disch := first | assumption | omega); exact rng_nat (by omega)) rfl
    (fun i ρ => ∃ x y z, ρ = [.val (.int new.length), .val (rowsD E new rs), .val (mostsD rs), .own (.lst (nD ((List.range i).map (Re E new rs)))), x, y, z]) ⟨.no, .no, .no, rfl⟩ ?_ ?_
  · rintro f hf ρ ⟨x, y, z, rfl⟩
    simp only [List.length_map, List.length_range] at hf
    unfold forB
    simp only [List.getElem_map, List.getElem_range, bindT_nm, pure_bind, List.set_cons_succ, List.set_cons_zero]
    have key : ∃ z', (exSs (.cons (.set 0 5 (.con (.int 1))) (.cons (.for_ (.nm 6) (.rng (.cons (.blt .len (.cons (.var 2) .nil)) .nil)) (.cons (.set 0 5 (.blt .max (.cons (.var 5) (.cons (.blt .min (.cons (.sub (.sub (.var 1) (.var 6)) (.var 4)) (.cons (.sub (.var 2) (.var 6)) .nil))) .nil)))) .nil)) (.cons (.app 3 (.bin .Add (.var 4) (.var 5))) .nil))) [.val (.int new.length), .val (rowsD E new rs), .val (mostsD rs), .own (.lst (nD ((List.range f).map (Re E new rs)))), .val (.int f), y, z]) = pure (.nx [.val (.int new.length), .val (rowsD E new rs), .val (mostsD rs), .own (.lst (nD ((List.range (f + 1)).map (Re E new rs)))), .val (.int f), .val (.int (Lo E new rs f)), z']) := by
      refine ⟨if rs.length = 0 then z else .val (.int (rs.length - 1 : Nat)), sts_end ?_⟩
      refine sts_nx [.val (.int new.length), .val (rowsD E new rs), .val (mostsD rs), .own (.lst (nD ((List.range f).map (Re E new rs)))), .val (.int f), .val (.int 1), z] (by simp) ?_
      refine sts_for (ds := (List.range rs.length).map fun j : Nat => D.int j) [.val (.int new.length), .val (rowsD E new rs), .val (mostsD rs), .own (.lst (nD ((List.range f).map (Re E new rs)))), .val (.int f), .val (.int 1), z] (by simp [mostsD, nD, bltD]; exact rng_nat (by omega)) rfl
        (fun i ρ => ρ = [.val (.int new.length), .val (rowsD E new rs), .val (mostsD rs), .own (.lst (nD ((List.range f).map (Re E new rs)))), .val (.int f), .val (.int (mx 1 ((rs.map fun r => min (Rn E new r f) r.most).take i) : Nat)), if i = 0 then z else .val (.int (i - 1 : Nat))]) rfl ?_ ?_
      · rintro k hk ρ rfl
        simp only [List.length_map, List.length_range] at hk
        have hk' : k < (rs.map fun r => min (Rn E new r f) r.most).length := by simpa using hk
        refine ⟨[.val (.int new.length), .val (rowsD E new rs), .val (mostsD rs), .own (.lst (nD ((List.range f).map (Re E new rs)))), .val (.int f), .val (.int (mx 1 ((rs.map fun r => min (Rn E new r f) r.most).take (k + 1)) : Nat)), .val (.int k)], .inl ?_, by simp⟩
        rw [mx_take hk']
        generalize mx 1 ((rs.map fun r => min (Rn E new r f) r.most).take k) = a
        unfold forB
        simp only [List.getElem_map, List.getElem_range, bindT_nm, pure_bind, List.set_cons_succ, List.set_cons_zero]
        have e1 : (do subD (← subD (rowsD E new rs) (.int k)) (.int f)) = (pure (.int (Rn E new rs[k] f)) : M D) := by
          simp [rowsD, atI_n, hk, nD, runs, hf]
        have e2 : subD (mostsD rs) (.int k) = pure (.int (rs[k]).most) := by simp [mostsD, nD, atI_n, hk]
        have e1a : subD (rowsD E new rs) (.int k) = pure (.lst (nD (runs E new rs[k]))) := by simp [rowsD, atI_n, hk]
        have e1b : subD (.lst (nD (runs E new rs[k]))) (.int f) = pure (.int (Rn E new rs[k] f)) := by
          rw [e1a] at e1; exact e1
        have hm : (if a < min (Rn E new rs[k] f) (rs[k]).most then ((min (Rn E new rs[k] f) (rs[k]).most : Nat) : Int) else (a : Int)) = ((max a (min (Rn E new rs[k] f) (rs[k]).most) : Nat) : Int) := by split <;> omega
        have hmin : bltD .min [.int (Rn E new rs[k] f), .int (rs[k]).most] = pure (.int (min (Rn E new rs[k] f) (rs[k]).most : Nat)) := by
          show (pure (D.int (if ((rs[k]).most : Int) < (Rn E new rs[k] f : Nat) then ((rs[k]).most : Int) else (Rn E new rs[k] f : Nat))) : M D) = _
          congr 2
          split <;> omega
        refine sts_end (sts_nx [.val (.int new.length), .val (rowsD E new rs), .val (mostsD rs), .own (.lst (nD ((List.range f).map (Re E new rs)))), .val (.int f), .val (.int (max a (min (Rn E new rs[k] f) (rs[k]).most) : Nat)), .val (.int k)] ?_ (sts_nil rfl))
        simp only [exS_set0, ev_blt, evs_cons, evs_nil, ev_var, ev_sub, vget_0, vget_s, d_val, opt_some, pure_bind, e1a, e1b, e2, hmin]
        rw [maxI_nat]
        simp
      · rintro ρ' rfl
        simp only [List.length_map, List.length_range]
        have e : (rs.map fun r => min (Rn E new r f) r.most).take rs.length = rs.map fun r => min (Rn E new r f) r.most := List.take_of_length_le (by simp)
        rw [e]
        refine sts_nx [.val (.int new.length), .val (rowsD E new rs), .val (mostsD rs), .own (.lst (nD ((List.range (f + 1)).map (Re E new rs)))), .val (.int f), .val (.int (Lo E new rs f)), if rs.length = 0 then z else .val (.int (rs.length - 1 : Nat))] ?_ (sts_nil rfl)
        have hl : f < line := by omega
        simp [appD, hl, nD, List.range_succ, Re, Lo]
    obtain ⟨z', key⟩ := key
    exact ⟨_, .inl key, _, _, _, rfl⟩
  · rintro ρ' ⟨x, y, z, rfl⟩
    refine sts_rt (.lst (nD ((List.range new.length).map (Re E new rs)))) ?_ rfl
    simp
theorem r_law_cuts {rc : Nat → Nat} {n : Nat} (h : ∀ p, p < n → p < rc p ∧ rc p ≤ n) (hn : n ≤ 1000) : s__law_cuts [.lst (nD ((List.range n).map rc))] = pure (.lst (nD (gr rc n n 0))) := by
  have hL := lineV
  have hlen : (nD ((List.range n).map rc)).length = n := by simp [nD]
  unfold s__law_cuts f__law_cuts
  refine run_go rfl ?_
  refine sts_nx [.val (.lst (nD ((List.range n).map rc))), .own (.lst []), .no, .no] (by simp) ?_
  refine sts_nx [.val (.lst (nD ((List.range n).map rc))), .own (.lst []), .val (.int 0), .no] (by simp) ?_
  have full : ∀ l, lc rc n n 0 = l → ∀ p : Sl, ∀ q, (exSs (.cons (.ret (.slc (.var 1) .no (.so (.bin .Sub (.blt .len (.cons (.var 1) .nil)) (.con (.int 1)))))) .nil) [.val (.lst (nD ((List.range n).map rc))), .own (.lst (nD l)), p, q] >>= fun u => match u with
    | .rt d => pure d
    | .nx _ => pure .non
    | .ex e _ => M.thr e
    | _ => M.stk) = (pure (.lst (nD (gr rc n n 0))) : M D) := by
    intro l hl p q
    refine sts_rt (.lst (nD (gr rc n n 0))) ?_ rfl
    by_cases h0 : n = 0
    · subst h0
      have : l = [] := by rw [← hl]; rfl
      subst this
      simp [nD, bltD, gr]
      rfl
    · rw [lc_gr h n 0 (by omega) (by omega)] at hl
      subst hl
      have e1 : cutL (nD (gr rc n n 0 ++ [n])) none (some (((gr rc n n 0).length : Nat) : Int)) = nD (gr rc n n 0) := by
        rw [cutL_to]
        simp [nD]
      have e2 : (((nD (gr rc n n 0 ++ [n])).length : Int) - 1) = ((gr rc n n 0).length : Nat) := by simp [nD]
      simp [bltD, e2, e1]
  refine sts_forx (ds := (List.range n).map fun j : Nat => D.int j) [.val (.lst (nD ((List.range n).map rc))), .own (.lst []), .val (.int 0), .no] (by simp [bltD, hlen]; exact rng_nat (by omega)) rfl
    (fun i ρ => ∃ (l : List Nat) (p : Nat) (x : Sl), ρ = [.val (.lst (nD ((List.range n).map rc))), .own (.lst (nD l)), .val (.int p), x] ∧ l.length ≤ i ∧ lc rc n n 0 = l ++ lc rc n (n - i) p)
    (fun u => ∃ (p : Nat) (x : Sl), u = .nx [.val (.lst (nD ((List.range n).map rc))), .own (.lst (nD (lc rc n n 0))), .val (.int p), x]) ⟨[], 0, .no, rfl, Nat.le_refl _, rfl⟩ ?_ ?_
  · rintro i hi ρ ⟨l, p, x, rfl, hl, e⟩
    simp only [List.length_map, List.length_range] at hi
    unfold forB
    simp only [List.getElem_map, List.getElem_range, bindT_nm, pure_bind, List.set_cons_succ, List.set_cons_zero]
    rw [show n - i = (n - (i + 1)) + 1 by omega] at e
    simp only [lc] at e
    by_cases c : p < n
    · rw [if_pos c] at e
      have e1 : subD (.lst (nD ((List.range n).map rc))) (.int (p : Int)) = pure (.int (rc p : Nat)) := by
        rw [sub_lstN (by rw [hlen]; exact c)]
        simp [nD]
      refine ⟨.nx [.val (.lst (nD ((List.range n).map rc))), .own (.lst (nD (l ++ [rc p]))), .val (.int (rc p : Nat)), .val (.int i)], sts_end (sts_nx [.val (.lst (nD ((List.range n).map rc))), .own (.lst (nD l)), .val (.int p), .val (.int i)] ?_ (sts_nx [.val (.lst (nD ((List.range n).map rc))), .own (.lst (nD l)), .val (.int (rc p : Nat)), .val (.int i)] ?_ (sts_nx [.val (.lst (nD ((List.range n).map rc))), .own (.lst (nD (l ++ [rc p]))), .val (.int (rc p : Nat)), .val (.int i)] ?_ (sts_nil rfl)))), l ++ [rc p], rc p, _, rfl, by simp; omega, by simpa using e⟩
      · have : ¬ n ≤ p := by omega
        simp [bltD, hlen, this]
      · simp only [exS_set0, ev_sub, ev_var, vget_0, vget_s, d_val, d_own, opt_some, pure_bind, e1]
        simp
      · have hll : l.length < line := by omega
        simp [appD, nD, hll]
    · rw [if_neg c] at e
      refine ⟨.bk [.val (.lst (nD ((List.range n).map rc))), .own (.lst (nD l)), .val (.int p), .val (.int i)], sts_end (sts_bk (ρ' := [.val (.lst (nD ((List.range n).map rc))), .own (.lst (nD l)), .val (.int p), .val (.int i)]) ?_ rfl), p, .val (.int i), by rw [e]; simp⟩
      have : n ≤ p := by omega
      simp [bltD, hlen, this]
  · rintro u (⟨p, x, rfl⟩ | ⟨ρ', rfl, l, p, x, rfl, hl, e⟩)
    · exact full _ rfl _ _
    · simp only [List.length_map, List.length_range, Nat.sub_self, lc, List.append_nil] at e
      exact full _ e _ _
theorem r_law_pieces (hn : new.length ≤ 1000) (hr : rs.length ≤ 1000) : s__law_pieces [.int new.length, rowsD E new rs, mostsD rs] = pure (.int (pc E rs new)) := by
  have hc := r_law_cuts (rc := Re E new rs) (n := new.length) (fun p hp => ⟨Re_lt E new rs, Re_le E new rs hp⟩) hn
  unfold s__law_pieces f__law_pieces
  refine run_go rfl ?_
  by_cases h0 : new.length = 0
  · have hp : pc E rs new = 0 := by unfold pc pcs; rw [if_pos h0]
    rw [hp]
    exact sts_rt (.int 0) (by simp [h0]) rfl
  · have h0' : ((new.length : Int) == 0) = false := by
      have : ¬ (new.length : Int) = 0 := by omega
      simpa using this
    have hp : pc E rs new = (gr (Re E new rs) new.length new.length 0).length + 1 := by unfold pc pcs; rw [if_neg h0]
    have hl2 : (nD (gr (Re E new rs) new.length new.length 0)).length = (gr (Re E new rs) new.length new.length 0).length := by simp [nD]
    rw [hp]
    refine sts_nx [.val (.int new.length), .val (rowsD E new rs), .val (mostsD rs)] (by simp only [exS_ife, ev_cmp, ev_var, ev_con, vget_0, d_val, opt_some, pure_bind, conD_int, cmp_eq, eqD_int, h0']; simp; intro z; exact absurd (by simp [z]) h0) ?_
    refine sts_rt (.int ((gr (Re E new rs) new.length new.length 0).length + 1 : Nat)) ?_ rfl
    simp [r_law_reach hn hr, hc, hl2]
end
end K86
set_option Elab.async false
set_option linter.all false
set_option maxRecDepth 100000
set_option maxHeartbeats 1000000
/-! law k86: a thing is alike itself -/
namespace K86
open L2 TI
def okA : Nat → D → Prop
  | 0, _ => False
  | _ + 1, .non => True
  | _ + 1, .bl _ => True
  | _ + 1, .int _ => True
  | _ + 1, .str _ => True
  | n + 1, .tup xs => xs.length ≤ 1000 ∧ ∀ x ∈ xs, okA n x
  | n + 1, .lst xs => xs.length ≤ 1000 ∧ ∀ x ∈ xs, okA n x
  | _ + 1, _ => False
theorem r_alike : ∀ (n : Nat) (d : D), okA n d → s__law_alike n [d, d] = pure (.bl true)
  | 0, d, h => h.elim
  | n + 1, d, h => by
    have hL := lineV
    unfold s__law_alike f__law_alike
    rw [run_eq rfl]
    cases d with
    | non => simp
    | bl b => simp (disch := first | assumption | omega) [isTy, tyOk]
    | int i => simp (disch := first | assumption | omega) [isTy, tyOk]
    | str i => simp (disch := first | assumption | omega) [isTy, tyOk]
    | tup xs =>
      obtain ⟨h1, h2⟩ := h
      simp (disch := first | assumption | omega) [isTy, tyOk]
      rw [rng_nat (by omega)]
      simp
      refine for_go (fun i ρ => ∃ x, ρ = [.val (.tup xs), .val (.tup xs), x]) ⟨.no, rfl⟩ ?_ ?_
      · rintro i h ρ ⟨x, rfl⟩
        simp at h
        have := r_alike n _ (h2 _ (List.getElem_mem h))
        simp [atI_n h, this]
        exact ⟨_, .inl rfl, _, rfl⟩
      · rintro ρ' ⟨x, rfl⟩
        simp
    | lst xs =>
      obtain ⟨h1, h2⟩ := h
      simp (disch := first | assumption | omega) [isTy, tyOk]
      rw [rng_nat (by omega)]
      simp
      refine for_go (fun i ρ => ∃ x, ρ = [.val (.lst xs), .val (.lst xs), x]) ⟨.no, rfl⟩ ?_ ?_
      · rintro i h ρ ⟨x, rfl⟩
        simp at h
        have := r_alike n _ (h2 _ (List.getElem_mem h))
        simp [atI_n h, this]
        exact ⟨_, .inl rfl, _, rfl⟩
      · rintro ρ' ⟨x, rfl⟩
        simp
    | dK _ _ => exact h.elim
    | dT _ _ => exact h.elim
    | wel => exact h.elim
end K86
set_option Elab.async false
set_option linter.all false
set_option maxRecDepth 100000
set_option maxHeartbeats 1000000
/-! law k86: what is refused; rows with one exchanged; reach, cuts, pieces looked at -/
namespace K86
open L2 TI
section
variable {E : List T} {rs : List Rl} {new : T}
theorem r_law_with (rows : List D) (k : Nat) (d : D) (h : rows.length ≤ 1000) : s__law_with [.lst rows, .int k, d] = pure (.lst (rows.set k d)) := by
  have hL := lineV
  unfold s__law_with f__law_with
  refine run_go rfl ?_
  refine sts_rt (.lst (rows.set k d)) ?_ rfl
  have e0 : (List.range rows.length).map (fun j => if j = k then d else (rows[j]?).getD .non) = rows.set k d := by
    apply List.ext_getElem
    · simp
    · intro i h1 h2
      have h1 : i < rows.length := by simpa using h1
      simp only [List.getElem_map, List.getElem_range, List.getElem_set]
      by_cases q : i = k
      · rw [if_pos q, if_pos q.symm]
      · rw [if_neg q, if_neg (fun z => q z.symm), List.getElem?_eq_getElem h1]; rfl
  have hr := rng_nat (n := rows.length) (by omega)
  simp
  rw [hr]
  simp
  rw [compL_map (r := fun j : Nat => if j = k then d else (rows[j]?).getD .non)]
  · have hl : rows.length ≤ line := by omega
    simp [e0, hl]
  · intro j hj
    have hj : j < rows.length := by simpa using hj
    unfold cmpF
    by_cases q : j = k
    · subst q
      have l2 : (2 : Nat) ≤ line := by omega
      simp [atI_n, hj, l2, at_1]
    · have q' : ¬ (j : Int) = (k : Int) := by omega
      have l2 : (2 : Nat) ≤ line := by omega
      simp [atI_n, hj, l2, at_0, q', q]
theorem okN (n : Nat) {l : List Nat} (h : l.length ≤ 1000) : okA (n + 2) (.tup (nD l)) := by
  refine ⟨by simpa [nD] using h, fun x hx => ?_⟩
  obtain ⟨k, _, rfl⟩ := List.mem_map.mp hx
  trivial
theorem r_looked (C : CO E rs new) : s__law_looked [caseD E rs new, .lst (nD ((List.range new.length).map (Re E new rs)))] = pure (.bl true) := by
  have hL := lineV
  have hn := C.n
  have hc := r_law_cuts (rc := Re E new rs) (n := new.length) (fun p hp => ⟨Re_lt E new rs, Re_le E new rs hp⟩) hn
  have e1 : reD E rs new new.length = nD ((List.range new.length).map (Re E new rs)) := by simp [reD, nD]
  have g1 := gr_len (rc := Re E new rs) (n := new.length) new.length 0
  have a1 := r_alike 6 (.tup (nD ((List.range new.length).map (Re E new rs)))) (okN 4 (by simpa using hn))
  have a2 := r_alike 6 (.tup (nD (gr (Re E new rs) new.length new.length 0))) (okN 4 (by omega))
  have a3 := r_alike 6 (.int (pc E rs new)) trivial
  have e2 : (((nD (gr (Re E new rs) new.length new.length 0)).length : Int) + (if 0 < (nD ((List.range new.length).map (Re E new rs))).length then (1 : Int) else 0)) = (pc E rs new : Nat) := by
    unfold pc pcs
    simp only [nD, List.length_map, List.length_range]
    by_cases h0 : new.length = 0
    · rw [if_pos h0, if_neg (by omega), h0]; simp [gr]
    · rw [if_neg h0, if_pos (by omega)]; simp
  unfold s__law_looked f__law_looked
  refine run_go rfl ?_
  refine sts_nx [.val (caseD E rs new), .val (.lst (nD ((List.range new.length).map (Re E new rs)))), .val (.lst (nD (gr (Re E new rs) new.length new.length 0)))] (by simp [hc]) ?_
  refine sts_nx [.val (caseD E rs new), .val (.lst (nD ((List.range new.length).map (Re E new rs)))), .val (.lst (nD (gr (Re E new rs) new.length new.length 0)))] ?_ ?_
  · rw [← e1] at a1
    simp [r_reach_table C, r_greedy C, ← e1, a1, a2]
  · refine sts_rt (.bl true) ?_ rfl
    simp [r_pieces C]
    rw [e2, a3]
    simp
def refD (word : PySem.Str) (d : D) : D := .tup [.str ("refused" : PySem.Str).cps.toList, .str word.cps.toList, d]
theorem try_no (word : PySem.Str) (d : D) (ρ : List Sl) : tryE "SaidError" (.ife (.or (.cons (.nt (.isi ["NoSuch"] true)) (.cons (.nt (.isi ["AskError"] true)) (.cons (.isi ["DataError", "CallError", "TextError"] false) .nil)))) (.tup (.cons (.con (.str "other")) (.cons (.con (.str "")) (.cons (.con (.int 0)) .nil)))) (.ret (.tup (.cons (.con (.str "refused")) (.cons (.at "word") (.cons (.at "name") .nil)))))) tab (.ex (noS word d) ρ) = pure (.rt (refD word d)) := by
  have e1 : tab.lookup (S (noS word d).cls) = some (["NoSuch", "AskError", "SaidError", "ValueError"] : List PySem.Str) := by
    show tab.lookup (S ("NoSuch" : PySem.Str).cps.toList) = _
    rw [S_of]
    decide
  have e2 : (["NoSuch", "AskError", "SaidError", "ValueError"] : List PySem.Str).contains "SaidError" = true := by decide
  have e3 : ht ["NoSuch", "AskError", "SaidError", "ValueError"] (.or (.cons (.nt (.isi ["NoSuch"] true)) (.cons (.nt (.isi ["AskError"] true)) (.cons (.isi ["DataError", "CallError", "TextError"] false) .nil)))) = false := by decide
  have e4 : lookE "word" (noS word d).nms (noS word d).args = some (.str word.cps.toList) := by
    show lookE "word" [("name" : PySem.Str).cps.toList, ("word" : PySem.Str).cps.toList] [d, .str word.cps.toList] = _
    simp only [lookE, S_of]
    rw [if_neg (by decide), if_pos trivial]
  have e5 : lookE "name" (noS word d).nms (noS word d).args = some d := by
    show lookE "name" [("name" : PySem.Str).cps.toList, ("word" : PySem.Str).cps.toList] [d, .str word.cps.toList] = _
    simp only [lookE, S_of]
    rw [if_pos trivial]
  simp only [tryE, e1, e2, if_true, hs, e3]
  simp [hv, hvs, conE, e4, e5, refD]
theorem nq1 : ¬ ("wide" : PySem.Str).cps = ("most" : PySem.Str).cps := by decide
theorem nq2 : ¬ ("least most" : PySem.Str).cps = ("most" : PySem.Str).cps := by decide
theorem nq3 : ¬ ("least most" : PySem.Str).cps = ("wide" : PySem.Str).cps := by decide
theorem nq4 : ¬ ("least wide" : PySem.Str).cps = ("most" : PySem.Str).cps := by decide
theorem nq5 : ¬ ("least wide" : PySem.Str).cps = ("wide" : PySem.Str).cps := by decide
theorem nq6 : ¬ ("least wide" : PySem.Str).cps = ("least most" : PySem.Str).cps := by decide
/-- the four words -/
def words : List PySem.Str := ["most", "wide", "least most", "least wide"]
theorem r_refused_bad (C : CO E rs new) (d : D) (h : badN rs.length d) (w : PySem.Str) (hw : w ∈ words) : s__law_refused [.str w.cps.toList, caseD E rs new, d] = pure (refD "rule" d) := by
  have hL := lineV
  have l2 : (2 : Nat) ≤ line := by omega
  have l1 : (1 : Nat) ≤ line := by omega
  have b := fun x => r_by_bad C d x h
  unfold s__law_refused f__law_refused
  refine run_go rfl ?_
  refine sts_nx [.val (.str w.cps.toList), .val (caseD E rs new), .val d, .val (.tup [.str ("told" : PySem.Str).cps.toList, .int 0]), .no] (by simp [l2]) ?_
  refine sts_rt (refD "rule" d) ?_ rfl
  rw [exS_tr]
  simp only [words, List.mem_cons, List.not_mem_nil, or_false] at hw
  rcases hw with rfl | rfl | rfl | rfl
  · simp [l1, (b _).1, try_no]
  · simp [nq1, l1, (b _).2.1, try_no]
  · simp [nq2, nq3, (b .non).2.2.1, try_no]
  · simp [nq4, nq5, nq6, (b .non).2.2.2, try_no]
theorem r_refused_wide (C : CO E rs new) (k : Nat) (hk : k < rs.length) (e : Nat) (t : Bool) (mm : Nat) (hb : rs[k] = .eld e t mm) (w : PySem.Str) (hw : w = "wide" ∨ w = "least wide") : s__law_refused [.str w.cps.toList, caseD E rs new, .int k] = pure (refD "wide" (.int k)) := by
  have hL := lineV
  have l2 : (2 : Nat) ≤ line := by omega
  have l1 : (1 : Nat) ≤ line := by omega
  have b := fun x => r_wide_elder C k hk e t mm hb x
  unfold s__law_refused f__law_refused
  refine run_go rfl ?_
  refine sts_nx [.val (.str w.cps.toList), .val (caseD E rs new), .val (.int k), .val (.tup [.str ("told" : PySem.Str).cps.toList, .int 0]), .no] (by simp [l2]) ?_
  refine sts_rt (refD "wide" (.int k)) ?_ rfl
  rw [exS_tr]
  rcases hw with rfl | rfl
  · simp [nq1, l1, (b _).1, try_no]
  · simp [nq4, nq5, nq6, (b .non).2, try_no]
end
end K86
set_option Elab.async false
set_option linter.all false
set_option maxRecDepth 100000
set_option maxHeartbeats 2000000
/-! law k86: what is asked of one rule -/
namespace K86
open L2 TI
section
variable {E : List T} {rs : List Rl} {new : T}
theorem runs_wm {r : Rl} {m : Nat} : runs E new (r.wm m) = runs E new r := by
  unfold runs
  congr 1
  funext f
  exact Rn_wm E new
theorem rows_wm {k : Nat} (hk : k < rs.length) {m : Nat} : rowsD E new (rs.set k ((rs[k]).wm m)) = rowsD E new rs := by
  unfold rowsD
  congr 1
  rw [List.map_set, runs_wm]
  have : (rs.map fun r => D.lst (nD (runs E new r)))[k]'(by simpa using hk) = D.lst (nD (runs E new rs[k])) := by simp
  rw [← this, List.set_getElem_self]
theorem mosts_wm {k : Nat} {m : Nat} {r : Rl} : mostsD (rs.set k (r.wm m)) = .lst ((nD (rs.map Rl.most)).set k (.int m)) := by
  unfold mostsD nD
  rw [List.map_set, wm_most, List.map_set]
theorem mosts_ww {k : Nat} (hk : k < rs.length) {w : Nat} : mostsD (rs.set k ((rs[k]).ww w)) = mostsD rs := by
  unfold mostsD
  congr 2
  rw [List.map_set, ww_most]
  have : (rs.map Rl.most)[k]'(by simpa using hk) = (rs[k]).most := by simp
  rw [← this, List.set_getElem_self]
theorem rows_ww {k : Nat} {r : Rl} {w : Nat} : rowsD E new (rs.set k (r.ww w)) = .lst ((rs.map fun r => D.lst (nD (runs E new r))).set k (.lst (nD (runs E new (r.ww w))))) := by
  unfold rowsD
  rw [List.map_set]
/-- the law's pieces with another most -/
theorem p_most (C : CO E rs new) (k : Nat) (hk : k < rs.length) (m : Nat) : (do s__law_pieces [.int new.length, rowsD E new rs, ← s__law_with [mostsD rs, .int k, .int m]]) = (pure (.int (pc E (rs.set k ((rs[k]).wm m)) new)) : M D) := by
  have e1 : s__law_with [mostsD rs, .int k, .int m] = pure (mostsD (rs.set k ((rs[k]).wm m))) := by
    rw [mosts_wm]
    exact r_law_with _ k _ (by simpa [nD] using C.r)
  rw [e1]
  show s__law_pieces [.int new.length, rowsD E new rs, mostsD (rs.set k ((rs[k]).wm m))] = _
  rw [← rows_wm (E := E) (new := new) hk (m := m)]
  exact r_law_pieces C.n (by simpa using C.r)
theorem p_most' (C : CO E rs new) (k : Nat) (hk : k < rs.length) (m : Nat) : ∃ x, s__law_with [mostsD rs, .int k, .int m] = pure x ∧ s__law_pieces [.int new.length, rowsD E new rs, x] = pure (.int (pc E (rs.set k ((rs[k]).wm m)) new)) := by
  have e1 : s__law_with [mostsD rs, .int k, .int m] = pure (mostsD (rs.set k ((rs[k]).wm m))) := by
    rw [mosts_wm]
    exact r_law_with _ k _ (by simpa [nD] using C.r)
  refine ⟨_, e1, ?_⟩
  rw [← rows_wm (E := E) (new := new) hk (m := m)]
  exact r_law_pieces C.n (by simpa using C.r)
/-- more than the text is long is no bound -/
theorem pc_all_most {k : Nat} (hk : k < rs.length) {m : Nat} (h : new.length ≤ m) : pc E (rs.set k ((rs[k]).wm m)) new ≤ pc E rs new := by
  rw [← pc_own (E := E) (new := new) hk]
  refine pc_set hk fun f x h1 h2 => ?_
  rw [Rn_wm] at h2 ⊢
  rw [wm_most]
  have := Rn_le E new (r := rs[k]) (f := f)
  exact ⟨by omega, h2⟩
theorem pc_all_wide {k : Nat} (hk : k < rs.length) {w w0 : Nat} {a t : Bool} {mm : Nat} (hb : rs[k] = .bak w0 a t mm) (h : new.length ≤ w) : pc E (rs.set k ((rs[k]).ww w)) new ≤ pc E rs new := by
  have e0 : (rs[k]).ww w0 = rs[k] := by rw [hb]; rfl
  have : pc E (rs.set k ((rs[k]).ww w)) new ≤ pc E (rs.set k ((rs[k]).ww w0)) new := by
    refine pc_set hk fun f x h1 h2 => ?_
    rw [ww_most] at h1 ⊢
    exact ⟨h1, Nat.le_trans h2 (Rn_all E new h)⟩
  rw [e0, set_self hk] at this
  exact this
theorem pc_ge_most (C : CO E rs new) {k : Nat} (hk : k < rs.length) {m : Nat} (h : m ≤ (rs[k]).most) : pc E rs new ≤ pc E (rs.set k ((rs[k]).wm m)) new := by
  have := pc_most (E := E) (new := new) hk h
  rw [pc_own hk] at this
  exact this
theorem pc_ge_wide {k : Nat} (hk : k < rs.length) {w w0 : Nat} {a t : Bool} {mm : Nat} (hb : rs[k] = .bak w0 a t mm) (h : w ≤ w0) : pc E rs new ≤ pc E (rs.set k ((rs[k]).ww w)) new := by
  have e0 : (rs[k]).ww w0 = rs[k] := by rw [hb]; rfl
  have := pc_wide (E := E) (new := new) hk h
  rw [e0, set_self hk] at this
  exact this
theorem okR (n : Nat) (w : PySem.Str) (d : D) (h : okA (n + 1) d) : okA (n + 2) (refD w d) := by
  refine ⟨by simp, fun x hx => ?_⟩
  simp only [List.mem_cons, List.not_mem_nil, or_false] at hx
  rcases hx with rfl | rfl | rfl
  · trivial
  · trivial
  · exact h
abbrev sl (E : List T) (rs : List Rl) (new : T) (k : Nat) (hk : k < rs.length) (l : List Sl) : List Sl := [.val (caseD E rs new), .val (rowsD E new rs), .val (mostsD rs), .val (.int k), .val (.int new.length), .val (rs[k]).d, .val (.int (pc E rs new))] ++ l
theorem minI_nat (a b : Nat) : bltD .min [.int (a : Int), .int (b : Int)] = pure (.int (min a b : Nat)) := by
  show (pure (D.int (if (b : Int) < a then (b : Int) else a)) : M D) = _
  congr 2
  split <;> omega
theorem last_d (r : Rl) : (do subD r.d (.int ((match r with
  | .eld _ _ _ => (4 : Int)
  | .bak _ _ _ _ => 5) - 1))) = (pure (.int r.most) : M D) := by
  cases r with
  | eld e t m => simp [Rl.d, at_3, Rl.most]
  | bak w a t m =>
    show subD (.tup _) (.int (4 : Nat)) = _
    rw [sub_tupN (by simp)]
    rfl
theorem r_rule_asked (C : CO E rs new) (k : Nat) (hk : k < rs.length) : s__law_rule_asked [caseD E rs new, rowsD E new rs, mostsD rs, .int k] = pure (.bl true) := by
  have hL := lineV
  have hn := C.n
  have hr := C.r
  have l1 : (1 : Nat) ≤ line := by omega
  have l3 : (3 : Nat) ≤ line := by omega
  have l4 : (4 : Nat) ≤ line := by omega
  have l5 : (5 : Nat) ≤ line := by omega
  have hm0 := most_ok C hk
  have hw : (nD (rs.map Rl.most)).length = rs.length := by simp [nD]
  unfold s__law_rule_asked f__law_rule_asked
  refine run_go rfl ?_
  refine sts_nx [.val (caseD E rs new), .val (rowsD E new rs), .val (mostsD rs), .val (.int k), .val (.int new.length), .no, .no, .no, .no, .no, .no, .no, .no, .no] (by simp (disch := first | assumption | omega) [case_2]) ?_
  refine sts_nx [.val (caseD E rs new), .val (rowsD E new rs), .val (mostsD rs), .val (.int k), .val (.int new.length), .val (rs[k]).d, .no, .no, .no, .no, .no, .no, .no, .no] (by simp [case_1, atI_n, hk]) ?_
  refine sts_nx [.val (caseD E rs new), .val (rowsD E new rs), .val (mostsD rs), .val (.int k), .val (.int new.length), .val (rs[k]).d, .val (.int (pc E rs new)), .no, .no, .no, .no, .no, .no, .no] (by simp [r_law_pieces (E := E) hn hr]) ?_
  obtain ⟨ms, hms⟩ : ∃ ms : List Nat, ms = [2, 3, (rs[k]).most, 300, 4] := ⟨_, rfl⟩
  have hml : ∀ m ∈ ms, 2 ≤ m ∧ m ≤ 1000 := by
    intro m hm
    rw [hms] at hm
    simp only [List.mem_cons, List.not_mem_nil, or_false] at hm
    omega
  have hmn : ms.length ≤ 1000 := by rw [hms]; simp
  have em : subD (mostsD rs) (.int k) = pure (.int (rs[k]).most) := by simp [mostsD, nD, atI_n, hk]
  refine sts_nx [.val (caseD E rs new), .val (rowsD E new rs), .val (mostsD rs), .val (.int k), .val (.int new.length), .val (rs[k]).d, .val (.int (pc E rs new)), .val (.tup (nD ms)), .no, .no, .no, .no, .no, .no] (by rw [hms]; simp [em, l5]; rfl) ?_
  have hby := r_by_most C k hk ms hml hmn
  obtain ⟨ds, hds⟩ : ∃ ds : List Nat, ds = ms.map fun m => pc E (rs.set k ((rs[k]).wm m)) new := ⟨_, rfl⟩
  rw [← hds] at hby
  have hdl : ds.length ≤ 1000 := by rw [hds]; simpa using hmn
  refine sts_nx [.val (caseD E rs new), .val (rowsD E new rs), .val (mostsD rs), .val (.int k), .val (.int new.length), .val (rs[k]).d, .val (.int (pc E rs new)), .val (.tup (nD ms)), .val (.tup (nD ds)), .no, .no, .no, .no, .no] ?_ ?_
  · simp [itemsD]
    unfold nD
    rw [compL_map (r := fun m : Nat => D.int (pc E (rs.set k ((rs[k]).wm m)) new))]
    · have hml' : ms.length ≤ line := by omega
      simp [hml', bltD, hds]
      try rfl
    · intro m hm
      obtain ⟨x, hx1, hx2⟩ := p_most' C k hk m
      unfold cmpF
      simp [hx1, hx2]
  have a1 := r_alike 6 (.tup (nD ds)) (okN 4 hdl)
  refine sts_nx [.val (caseD E rs new), .val (rowsD E new rs), .val (mostsD rs), .val (.int k), .val (.int new.length), .val (rs[k]).d, .val (.int (pc E rs new)), .val (.tup (nD ms)), .val (.tup (nD ds)), .no, .no, .no, .no, .no] (by simp [hby, a1]) ?_
  refine sts_nx [.val (caseD E rs new), .val (rowsD E new rs), .val (mostsD rs), .val (.int k), .val (.int new.length), .val (rs[k]).d, .val (.int (pc E rs new)), .val (.tup (nD ms)), .val (.tup (nD ds)), .no, .val (.int 2), .no, .no, .no] (by simp) ?_
  obtain ⟨U, hU⟩ : ∃ U : Nat, U = min (rs[k]).most (new.length + 2) := ⟨_, rfl⟩
  have hPU : pc E (rs.set k ((rs[k]).wm U)) new = pc E rs new := by
    apply Nat.le_antisymm
    · by_cases q : (rs[k]).most ≤ new.length + 2
      · have : U = (rs[k]).most := by omega
        rw [this, pc_own hk]; exact Nat.le_refl _
      · exact pc_all_most hk (by omega)
    · exact pc_ge_most C hk (by omega)
  refine sts_forx (ds := (List.range (U - 1)).map fun j : Nat => D.int (2 + j)) [.val (caseD E rs new), .val (rowsD E new rs), .val (mostsD rs), .val (.int k), .val (.int new.length), .val (rs[k]).d, .val (.int (pc E rs new)), .val (.tup (nD ms)), .val (.tup (nD ds)), .no, .val (.int 2), .no, .no, .no] ?_ rfl
    (fun i ρ => ∃ x, ∃ q : Nat, ρ = [.val (caseD E rs new), .val (rowsD E new rs), .val (mostsD rs), .val (.int k), .val (.int new.length), .val (rs[k]).d, .val (.int (pc E rs new)), .val (.tup (nD ms)), .val (.tup (nD ds)), x, .val (.int q), .no, .no, .no] ∧ ∀ j, j < i → pc E (rs.set k ((rs[k]).wm (2 + j))) new ≠ pc E rs new)
    (fun u => ∃ x, u = .nx [.val (caseD E rs new), .val (rowsD E new rs), .val (mostsD rs), .val (.int k), .val (.int new.length), .val (rs[k]).d, .val (.int (pc E rs new)), .val (.tup (nD ms)), .val (.tup (nD ds)), x, .val (.int (lm E rs new k hk)), .no, .no, .no]) ⟨.no, 2, rfl, fun j hj => by omega⟩ ?_ ?_
  · obtain ⟨L, hL1, hL2⟩ : ∃ L : Int, bltD .len [(rs[k]).d] = pure (.int L) ∧ subD (rs[k]).d (.int (L - 1)) = pure (.int (rs[k]).most) := by
      generalize rs[k] = r
      cases r with
      | eld e t m => exact ⟨4, rfl, by simp [Rl.d, at_3, Rl.most]⟩
      | bak w a t m => exact ⟨5, rfl, by simp [Rl.d, at_4, Rl.most]⟩
    have e3 := minI_nat (rs[k]).most (new.length + 2)
    rw [← hU, show ((new.length + 2 : Nat) : Int) = (new.length : Int) + 2 by omega] at e3
    have e5 := rng_two (i := 2) (j := (U : Int) + 1) (by omega) (by omega) (by omega) (by omega)
    have e6 : ((U : Int) + 1 - 2).toNat = U - 1 := by omega
    rw [e6] at e5
    simp only [evIt_rng, evs_cons, evs_nil, ev_con, conD_int, ev_bin, ev_blt, ev_sub, ev_var, vget_0, vget_s, d_val, opt_some, pure_bind, bind_assoc, hL1, hL2, bin_subI, bin_addI, e3, e5]
  · rintro i hi ρ ⟨x, q, rfl, hj⟩
    simp only [List.length_map, List.length_range] at hi
    unfold forB
    simp only [List.getElem_map, List.getElem_range, bindT_nm, pure_bind, List.set_cons_succ, List.set_cons_zero]
    rw [show ((2 : Int) + (i : Int)) = ((2 + i : Nat) : Int) by omega]
    obtain ⟨y, hy1, hy2⟩ := p_most' C k hk (2 + i)
    by_cases c : pc E (rs.set k ((rs[k]).wm (2 + i))) new = pc E rs new
    · have hlm : 2 + i = lm E rs new k hk := by
        refine lm_uq C hk (by rw [c]; exact Nat.le_refl _) (by omega) fun x h1 h2 h3 => ?_
        have h4 := hj (x - 2) (by omega)
        rw [show 2 + (x - 2) = x by omega] at h4
        have h5 := pc_ge_most (E := E) (new := new) C hk (m := x) (by omega)
        omega
      generalize 2 + i = p at *
      refine ⟨.bk [.val (caseD E rs new), .val (rowsD E new rs), .val (mostsD rs), .val (.int k), .val (.int new.length), .val (rs[k]).d, .val (.int (pc E rs new)), .val (.tup (nD ms)), .val (.tup (nD ds)), .val (.int p), .val (.int p), .no, .no, .no], sts_end (sts_nx [.val (caseD E rs new), .val (rowsD E new rs), .val (mostsD rs), .val (.int k), .val (.int new.length), .val (rs[k]).d, .val (.int (pc E rs new)), .val (.tup (nD ms)), .val (.tup (nD ds)), .val (.int p), .val (.int p), .no, .no, .no] (by simp) (sts_bk (ρ' := [.val (caseD E rs new), .val (rowsD E new rs), .val (mostsD rs), .val (.int k), .val (.int new.length), .val (rs[k]).d, .val (.int (pc E rs new)), .val (.tup (nD ms)), .val (.tup (nD ds)), .val (.int p), .val (.int p), .no, .no, .no]) ?_ rfl)), .val (.int p), by rw [hlm]⟩
      simp [hy1, hy2, c]
    · have c' : ((pc E (rs.set k ((rs[k]).wm (2 + i))) new : Int) == (pc E rs new : Nat)) = false := by simp; omega
      refine ⟨.nx [.val (caseD E rs new), .val (rowsD E new rs), .val (mostsD rs), .val (.int k), .val (.int new.length), .val (rs[k]).d, .val (.int (pc E rs new)), .val (.tup (nD ms)), .val (.tup (nD ds)), .val (.int (2 + i : Nat)), .val (.int (2 + i : Nat)), .no, .no, .no], ?_, _, _, rfl, fun j hji => ?_⟩
      · generalize 2 + i = p at *
        refine sts_end (sts_nx [.val (caseD E rs new), .val (rowsD E new rs), .val (mostsD rs), .val (.int k), .val (.int new.length), .val (rs[k]).d, .val (.int (pc E rs new)), .val (.tup (nD ms)), .val (.tup (nD ds)), .val (.int p), .val (.int p), .no, .no, .no] (by simp) (sts_nx [.val (caseD E rs new), .val (rowsD E new rs), .val (mostsD rs), .val (.int k), .val (.int new.length), .val (rs[k]).d, .val (.int (pc E rs new)), .val (.tup (nD ms)), .val (.tup (nD ds)), .val (.int p), .val (.int p), .no, .no, .no] ?_ (sts_nil rfl)))
        have c2 : ¬ ((pc E (rs.set k ((rs[k]).wm p)) new : Nat) : Int) = (pc E rs new : Nat) := by omega
        simp [hy1, hy2, c2, c]
      · by_cases z : j = i
        · rw [z]; exact c
        · exact hj j (by omega)
  have after : ∀ x : Sl, ∀ R : M D, (R = pure (.bl true)) → R = pure (.bl true) := fun _ _ h => h
  rintro u hu
  have hu : ∃ x, u = .nx [.val (caseD E rs new), .val (rowsD E new rs), .val (mostsD rs), .val (.int k), .val (.int new.length), .val (rs[k]).d, .val (.int (pc E rs new)), .val (.tup (nD ms)), .val (.tup (nD ds)), x, .val (.int (lm E rs new k hk)), .no, .no, .no] := by
    rcases hu with hu | ⟨ρ', rfl, x, q, rfl, hj⟩
    · exact hu
    · exfalso
      have := hj (U - 2) (by simp; omega)
      rw [show 2 + (U - 2) = U by omega] at this
      exact this hPU
  obtain ⟨x, rfl⟩ := hu
  show (exSs _ _ >>= _) = _
  have a2 := r_alike 6 (.int (lm E rs new k hk)) trivial
  refine sts_nx [.val (caseD E rs new), .val (rowsD E new rs), .val (mostsD rs), .val (.int k), .val (.int new.length), .val (rs[k]).d, .val (.int (pc E rs new)), .val (.tup (nD ms)), .val (.tup (nD ds)), x, .val (.int (lm E rs new k hk)), .no, .no, .no] (by simp [r_least_most C k hk, a2]) ?_
  cases hb : rs[k] with
  | eld e t mm =>
    have f1 := r_refused_wide C k hk e t mm hb "wide" (.inl rfl)
    have f2 := r_refused_wide C k hk e t mm hb "least wide" (.inr rfl)
    have a3 := r_alike 6 (refD "wide" (.int k)) (okR 4 _ _ trivial)
    refine sts_rt (.bl true) ?_ rfl
    unfold refD at a3 f1 f2
    simp [Rl.d, at_0, f1, f2, a3, l3]
  | bak w0 a t mm =>
    have ho := C.o rs[k] (List.getElem_mem hk)
    have hw0 : w0 ≤ 1000 ∧ 1 ≤ w0 := by rw [hb] at ho; exact ⟨ho.1, ho.2.2.1⟩
    rw [← hb]
    refine sts_nx [.val (caseD E rs new), .val (rowsD E new rs), .val (mostsD rs), .val (.int k), .val (.int new.length), .val (rs[k]).d, .val (.int (pc E rs new)), .val (.tup (nD ms)), .val (.tup (nD ds)), x, .val (.int (lm E rs new k hk)), .no, .no, .no] (by rw [hb]; simp [Rl.d, at_0, nBE]) ?_
    obtain ⟨ws, hws⟩ : ∃ ws : List Nat, ws = [1, w0, 2, 300] := ⟨_, rfl⟩
    have hwl : ∀ w ∈ ws, 1 ≤ w ∧ w ≤ 1000 := by
      intro w hm
      rw [hws] at hm
      simp only [List.mem_cons, List.not_mem_nil, or_false] at hm
      omega
    have hwn : ws.length ≤ 1000 := by rw [hws]; simp
    refine sts_nx [.val (caseD E rs new), .val (rowsD E new rs), .val (mostsD rs), .val (.int k), .val (.int new.length), .val (rs[k]).d, .val (.int (pc E rs new)), .val (.tup (nD ws)), .val (.tup (nD ds)), x, .val (.int (lm E rs new k hk)), .no, .no, .no] (by rw [hws, hb]; simp [Rl.d, at_1, l4]; rfl) ?_
    obtain ⟨p1, p2, hp1, hp2, hp3⟩ := ww_d w0 a t mm
    rw [← hb] at hp1 hp2
    have lot : ∀ w, 1 ≤ w → w ≤ 1000 → ∃ z y, binD .Add p1 (.tup [.int (w : Nat)]) = pure z ∧ binD .Add z p2 = pure y ∧ ∃ v, s__law_runs [caseD E rs new, y] = pure v ∧ s__law_with [rowsD E new rs, .int k, v] = pure (rowsD E new (rs.set k ((rs[k]).ww w))) := by
      intro w h1 h2
      obtain ⟨z, z1, z2⟩ := hp3 w
      have ez : (Rl.bak w a t mm) = (rs[k]).ww w := by rw [hb]; rfl
      rw [ez] at z2
      refine ⟨z, _, z1, z2, _, r_runs C _ (ho.ww h2 h1), ?_⟩
      rw [rows_ww]
      exact r_law_with _ k _ (by simpa using hr)
    have lotp : ∀ w, 1 ≤ w → w ≤ 1000 → s__law_pieces [.int new.length, rowsD E new (rs.set k ((rs[k]).ww w)), mostsD rs] = pure (.int (pc E (rs.set k ((rs[k]).ww w)) new)) := by
      intro w h1 h2
      rw [← mosts_ww hk (w := w)]
      exact r_law_pieces hn (by simpa using hr)
    have hwl' : ws.length ≤ line := by omega
    refine sts_nx [.val (caseD E rs new), .val (rowsD E new rs), .val (mostsD rs), .val (.int k), .val (.int new.length), .val (rs[k]).d, .val (.int (pc E rs new)), .val (.tup (nD ws)), .val (.tup (nD ds)), x, .val (.int (lm E rs new k hk)), .val (.lst (ws.map fun w => rowsD E new (rs.set k ((rs[k]).ww w)))), .no, .no] ?_ ?_
    · simp [itemsD]
      unfold nD
      rw [compL_map (r := fun w : Nat => rowsD E new (rs.set k ((rs[k]).ww w)))]
      · simp [hwl']
      · intro w hm
        obtain ⟨h1, h2⟩ := hwl w hm
        obtain ⟨z, y, z1, z2, v, v1, v2⟩ := lot w h1 h2
        unfold cmpF
        simp [l1, hp1, hp2, z1, z2, v1, v2]
    have hbw := r_by_wide C k hk w0 a t mm hb ws hwl hwn
    obtain ⟨es, hes⟩ : ∃ es : List Nat, es = ws.map fun w => pc E (rs.set k ((rs[k]).ww w)) new := ⟨_, rfl⟩
    rw [← hes] at hbw
    have hel : es.length ≤ 1000 := by rw [hes]; simpa using hwn
    refine sts_nx [.val (caseD E rs new), .val (rowsD E new rs), .val (mostsD rs), .val (.int k), .val (.int new.length), .val (rs[k]).d, .val (.int (pc E rs new)), .val (.tup (nD ws)), .val (.tup (nD es)), x, .val (.int (lm E rs new k hk)), .val (.lst (ws.map fun w => rowsD E new (rs.set k ((rs[k]).ww w)))), .no, .no] ?_ ?_
    · simp [itemsD]
      rw [compL_map (r := fun w : Nat => D.int (pc E (rs.set k ((rs[k]).ww w)) new))]
      · simp [hwl', hes, nD]
        try rfl
      · intro w hm
        obtain ⟨h1, h2⟩ := hwl w hm
        have := lotp w h1 h2
        unfold cmpF
        simp [this]
    have a4 := r_alike 6 (.tup (nD es)) (okN 4 hel)
    refine sts_nx [.val (caseD E rs new), .val (rowsD E new rs), .val (mostsD rs), .val (.int k), .val (.int new.length), .val (rs[k]).d, .val (.int (pc E rs new)), .val (.tup (nD ws)), .val (.tup (nD es)), x, .val (.int (lm E rs new k hk)), .val (.lst (ws.map fun w => rowsD E new (rs.set k ((rs[k]).ww w)))), .no, .no] (by simp [hbw, a4]) ?_
    generalize D.lst (ws.map fun w => rowsD E new (rs.set k ((rs[k]).ww w))) = lots
    refine sts_nx [.val (caseD E rs new), .val (rowsD E new rs), .val (mostsD rs), .val (.int k), .val (.int new.length), .val (rs[k]).d, .val (.int (pc E rs new)), .val (.tup (nD ws)), .val (.tup (nD es)), x, .val (.int 1), .val lots, .no, .no] (by simp) ?_
    obtain ⟨V, hV⟩ : ∃ V : Nat, V = min w0 (new.length + 1) := ⟨_, rfl⟩
    have hPV : pc E (rs.set k ((rs[k]).ww V)) new = pc E rs new := by
      apply Nat.le_antisymm
      · by_cases q : w0 ≤ new.length + 1
        · have e0 : V = w0 := by omega
          have e1 : (rs[k]).ww w0 = rs[k] := by rw [hb]; rfl
          rw [e0, e1, set_self hk]; exact Nat.le_refl _
        · exact pc_all_wide hk hb (by omega)
      · exact pc_ge_wide hk hb (by omega)
    refine sts_forx (ds := (List.range V).map fun j : Nat => D.int (1 + j)) [.val (caseD E rs new), .val (rowsD E new rs), .val (mostsD rs), .val (.int k), .val (.int new.length), .val (rs[k]).d, .val (.int (pc E rs new)), .val (.tup (nD ws)), .val (.tup (nD es)), x, .val (.int 1), .val lots, .no, .no] ?_ rfl
      (fun i ρ => ∃ q : Nat, ∃ y z, ρ = [.val (caseD E rs new), .val (rowsD E new rs), .val (mostsD rs), .val (.int k), .val (.int new.length), .val (rs[k]).d, .val (.int (pc E rs new)), .val (.tup (nD ws)), .val (.tup (nD es)), x, .val (.int q), .val lots, y, z] ∧ ∀ j, j < i → pc E (rs.set k ((rs[k]).ww (1 + j))) new ≠ pc E rs new)
      (fun u => ∃ y z, u = .nx [.val (caseD E rs new), .val (rowsD E new rs), .val (mostsD rs), .val (.int k), .val (.int new.length), .val (rs[k]).d, .val (.int (pc E rs new)), .val (.tup (nD ws)), .val (.tup (nD es)), x, .val (.int (lw E rs new k hk w0)), .val lots, y, z]) ⟨1, .no, .no, rfl, fun j hj => by omega⟩ ?_ ?_
    · have e2 : subD (rs[k]).d (.int 1) = pure (.int w0) := by rw [hb]; simp [Rl.d, at_1]
      have e3 := minI_nat w0 (new.length + 1)
      rw [← hV, show ((new.length + 1 : Nat) : Int) = (new.length : Int) + 1 by omega] at e3
      have e5 := rng_two (i := 1) (j := (V : Int) + 1) (by omega) (by omega) (by omega) (by omega)
      have e6 : ((V : Int) + 1 - 1).toNat = V := by omega
      rw [e6] at e5
      simp only [evIt_rng, evs_cons, evs_nil, ev_con, conD_int, ev_bin, ev_blt, ev_sub, ev_var, vget_0, vget_s, d_val, opt_some, pure_bind, bind_assoc, e2, bin_subI, bin_addI, e3, e5]
    · rintro i hi ρ ⟨q, y, z, rfl, hj⟩
      simp only [List.length_map, List.length_range] at hi
      unfold forB
      simp only [List.getElem_map, List.getElem_range, bindT_nm, pure_bind, List.set_cons_succ, List.set_cons_zero]
      rw [show ((1 : Int) + (i : Int)) = ((1 + i : Nat) : Int) by omega]
      obtain ⟨z', y', z1, z2, v, v1, v2⟩ := lot (1 + i) (by omega) (by omega)
      have v3 := lotp (1 + i) (by omega) (by omega)
      by_cases c : pc E (rs.set k ((rs[k]).ww (1 + i))) new = pc E rs new
      · have hlw : 1 + i = lw E rs new k hk w0 := by
          refine lw_uq C hk hb (by rw [c]; exact Nat.le_refl _) (by omega) fun x h1 h2 h3 => ?_
          have h4 := hj (x - 1) (by omega)
          rw [show 1 + (x - 1) = x by omega] at h4
          have h5 := pc_ge_wide (E := E) (new := new) hk hb (w := x) (by omega)
          omega
        generalize 1 + i = p at *
        refine ⟨.bk [.val (caseD E rs new), .val (rowsD E new rs), .val (mostsD rs), .val (.int k), .val (.int new.length), .val (rs[k]).d, .val (.int (pc E rs new)), .val (.tup (nD ws)), .val (.tup (nD es)), x, .val (.int p), .val lots, .val (.int p), .val (rowsD E new (rs.set k ((rs[k]).ww p)))], sts_end (sts_nx [.val (caseD E rs new), .val (rowsD E new rs), .val (mostsD rs), .val (.int k), .val (.int new.length), .val (rs[k]).d, .val (.int (pc E rs new)), .val (.tup (nD ws)), .val (.tup (nD es)), x, .val (.int p), .val lots, .val (.int p), z] (by simp) (sts_nx [.val (caseD E rs new), .val (rowsD E new rs), .val (mostsD rs), .val (.int k), .val (.int new.length), .val (rs[k]).d, .val (.int (pc E rs new)), .val (.tup (nD ws)), .val (.tup (nD es)), x, .val (.int p), .val lots, .val (.int p), .val (rowsD E new (rs.set k ((rs[k]).ww p)))] ?_ (sts_bk (ρ' := [.val (caseD E rs new), .val (rowsD E new rs), .val (mostsD rs), .val (.int k), .val (.int new.length), .val (rs[k]).d, .val (.int (pc E rs new)), .val (.tup (nD ws)), .val (.tup (nD es)), x, .val (.int p), .val lots, .val (.int p), .val (rowsD E new (rs.set k ((rs[k]).ww p)))]) ?_ rfl))), .val (.int p), .val (rowsD E new (rs.set k ((rs[k]).ww p))), by rw [hlw]⟩
        · simp [l1, hp1, hp2, z1, z2, v1, v2]
        · simp [v3, c]
      · refine ⟨.nx [.val (caseD E rs new), .val (rowsD E new rs), .val (mostsD rs), .val (.int k), .val (.int new.length), .val (rs[k]).d, .val (.int (pc E rs new)), .val (.tup (nD ws)), .val (.tup (nD es)), x, .val (.int (1 + i : Nat)), .val lots, .val (.int (1 + i : Nat)), .val (rowsD E new (rs.set k ((rs[k]).ww (1 + i))))], ?_, _, _, _, rfl, fun j hji => ?_⟩
        · generalize 1 + i = p at *
          refine sts_end (sts_nx [.val (caseD E rs new), .val (rowsD E new rs), .val (mostsD rs), .val (.int k), .val (.int new.length), .val (rs[k]).d, .val (.int (pc E rs new)), .val (.tup (nD ws)), .val (.tup (nD es)), x, .val (.int p), .val lots, .val (.int p), z] (by simp) (sts_nx [.val (caseD E rs new), .val (rowsD E new rs), .val (mostsD rs), .val (.int k), .val (.int new.length), .val (rs[k]).d, .val (.int (pc E rs new)), .val (.tup (nD ws)), .val (.tup (nD es)), x, .val (.int p), .val lots, .val (.int p), .val (rowsD E new (rs.set k ((rs[k]).ww p)))] ?_ (sts_nx [.val (caseD E rs new), .val (rowsD E new rs), .val (mostsD rs), .val (.int k), .val (.int new.length), .val (rs[k]).d, .val (.int (pc E rs new)), .val (.tup (nD ws)), .val (.tup (nD es)), x, .val (.int p), .val lots, .val (.int p), .val (rowsD E new (rs.set k ((rs[k]).ww p)))] ?_ (sts_nil rfl))))
          · simp [l1, hp1, hp2, z1, z2, v1, v2]
          · have c2 : ¬ ((pc E (rs.set k ((rs[k]).ww p)) new : Nat) : Int) = (pc E rs new : Nat) := by omega
            simp [v3, c2, c]
        · by_cases z : j = i
          · rw [z]; exact c
          · exact hj j (by omega)
    · intro u hu
      have hu : ∃ y z, u = .nx [.val (caseD E rs new), .val (rowsD E new rs), .val (mostsD rs), .val (.int k), .val (.int new.length), .val (rs[k]).d, .val (.int (pc E rs new)), .val (.tup (nD ws)), .val (.tup (nD es)), x, .val (.int (lw E rs new k hk w0)), .val lots, y, z] := by
        rcases hu with hu | ⟨ρ', rfl, q, y, z, rfl, hj⟩
        · exact hu
        · exfalso
          have := hj (V - 1) (by simp; omega)
          rw [show 1 + (V - 1) = V by omega] at this
          exact this hPV
      obtain ⟨y, z, rfl⟩ := hu
      show (exSs _ _ >>= _) = _
      have a5 := r_alike 6 (.int (lw E rs new k hk w0)) trivial
      exact sts_rt (.bl true) (by simp [r_least_wide C k hk hb, a5]) rfl
end
end K86
set_option Elab.async false
set_option linter.all false
set_option maxRecDepth 100000
set_option maxHeartbeats 1000000
/-! law k86: what is drawn -/
namespace K86
open L2 TI
theorem flat_one (f : Nat → Nat) (l : List Nat) : (l.map fun k => [f k]).flatten = l.map f := by induction l <;> simp_all
/-- a sound well, k draws left -/
def WG (g : G) (k : Nat) : Prop := ∃ (cells : List Int) (turn stir : Int), g = [cells, [turn], [stir]] ∧ cells ≠ [] ∧ 0 ≤ turn ∧ turn + k ≤ 2 ^ 60
theorem WG.mono (g : G) (i j : Nat) (h : i ≤ j) (w : WG g j) : WG g i := by
  obtain ⟨cells, turn, stir, e, h1, h2, h3⟩ := w
  exact ⟨cells, turn, stir, e, h1, h2, by omega⟩
theorem h_pick (many : Nat) (h0 : 0 < many) (h1 : many < 1073741824) : Ho WG 1 (s__law_pick [.wel, .int many]) fun d => ∃ r : Nat, d = .int r ∧ r < many := by
  intro g k ⟨cells, turn, stir, e, c, t0, t1⟩
  subst e
  have hc : 0 < (many : Int) ∧ (many : Int) < 1073741824 ∧ 0 ≤ turn ∧ turn < 2 ^ 64 ∧ cells ≠ [] := ⟨by omega, by omega, t0, by omega, c⟩
  have key : ∀ x : Int, ∃ r : Nat, D.int (x % many) = D.int r ∧ r < many := fun x => by
    have h2 := Int.emod_nonneg x (show (many : Int) ≠ 0 by omega)
    have h3 := Int.emod_lt_of_pos x (show (0 : Int) < many by omega)
    exact ⟨(x % many).toNat, by congr 1; omega, by omega⟩
  show ∃ a g', M.bnd (pickG many) (fun i => pure (D.int i)) [cells, [turn], [stir]] = .ok a g' ∧ _
  unfold M.bnd pickG
  simp only
  rw [if_pos hc]
  by_cases b : 10 ^ 18 ≤ cells.getD (turn % (cells.length : Int)).toNat 0 ∨ cells.getD (turn % (cells.length : Int)).toNat 0 ≤ -10 ^ 18
  · rw [if_pos b]
    exact ⟨_, _, rfl, ⟨_, _, _, rfl, by simpa using c, by omega, by omega⟩, key _⟩
  · rw [if_neg b]
    exact ⟨_, _, rfl, ⟨_, _, _, rfl, c, by omega, by omega⟩, key _⟩
theorem strs_of : ∀ l : List D, (∀ x ∈ l, ∃ c : Nat, x = .str [c]) → ∃ cs : List Nat, l = cs.map fun c => D.str [c]
  | [], _ => ⟨[], rfl⟩
  | d :: l, h => by
    obtain ⟨c, rfl⟩ := h d (by simp)
    obtain ⟨cs, rfl⟩ := strs_of l fun x hx => h x (List.mem_cons_of_mem _ hx)
    exact ⟨c :: cs, rfl⟩
theorem h_signs : Ho WG 10 (s__law_signs [.wel]) fun d => ∃ s : List Nat, d = .str s ∧ 2 ≤ s.length ∧ s.length ≤ 4 := by
  have hL := lineV
  unfold s__law_signs f__law_signs
  obtain ⟨sg, hsg⟩ : ∃ sg : List Nat, (PySem.Str.ofString " !\"#$&'()*+,-./0123456789:;<=>?@ABCDEFGHIJKLMNOPQRSTUVWXYZ[\\]^_`abcdefghijklmnopqrstuvwxyz{|}~").cps.toList = sg := ⟨_, rfl⟩
  have hlen : sg.length = 94 := by rw [← hsg]; decide +kernel
  refine Ho.more WG.mono (n := 1 + 3) ?_ (by decide)
  refine ho_run rfl ?_
  refine ho_nx [.val .wel, .val (.str sg), .no, .no] (by simp [hsg]) ?_
  refine ho_do (fun ρ' => ∃ r : Nat, r < 4 ∧ ρ' = [.val .wel, .val (.str sg), .val (.int r), .no]) ?_ ?_
  · have := h_pick 4 (by decide) (by decide)
    simp
    exact (Ho.lif this fun d ⟨r, e, h⟩ => .pure ⟨_, rfl, r, h, by subst e; rfl⟩)
  · rintro ρ' ⟨r, hr, rfl⟩
    by_cases z : r = 0
    · subst z
      refine ho_ifT (by simp) ?_
      refine ho_ret (n := 3) (n' := 0) (fun d => ∃ s : List Nat, d = .str s ∧ 2 ≤ s.length ∧ s.length ≤ 4) ?_ fun d j => .pure j
      have r3 : rngOf [.int 3] = pure ((List.range 3).map fun k : Nat => D.int k) := rng_nat (n := 3) (by omega)
      simp (disch := first | assumption | omega) [r3]
      refine Ho.lif (n := 3) (n' := 0) (Q := fun d => ∃ s : List Nat, d = .str s ∧ s.length = 3) (Ho.bind (n := 3) (n' := 0) (Q := fun l : List D => l.length = 3 ∧ ∀ x ∈ l, ∃ c : Nat, x = .str [c]) (Ho.compL (b := 1) (ds := (List.range 3).map fun k : Nat => D.int k) fun d hd => ?_) fun l ⟨h1, h2⟩ => ?_) fun d ⟨s, e, h⟩ => .pure ⟨d, rfl, s, e, by omega, by omega⟩
      · have := h_pick 94 (by decide) (by decide)
        unfold cmpF
        simp
        refine Ho.map (Q := fun d => ∃ c : Nat, d = .str [c]) (Ho.nox (Ho.bind (n' := 0) this fun d ⟨r, e, h⟩ => ?_)) fun d j => ⟨d, rfl, j⟩
        subst e
        rw [sub_strN (by omega) (by omega)]
        exact .pure ⟨_, rfl⟩
      · obtain ⟨cs, rfl⟩ := strs_of l h2
        rw [emp_str, met_join (f := fun c => [c]) (by rw [flat_one (fun c => c)]; simp at h1 ⊢; omega), flat_one (fun c => c)]
        exact .pure ⟨_, rfl, by simpa using h1⟩
    · refine ho_ifF ?_ ?_
      · have : ((r : Int) == 0) = false := by simp; omega
        simp [this]
      refine ho_nil ?_
      have k1 : (PySem.Str.ofString "ab").cps.toList = [97, 98] := by rfl
      have k2 : (PySem.Str.ofString "abc").cps.toList = [97, 98, 99] := by rfl
      have k3 : (PySem.Str.ofString "abcd").cps.toList = [97, 98, 99, 100] := by rfl
      obtain rfl | rfl | rfl : r = 1 ∨ r = 2 ∨ r = 3 := by omega
      · refine Ho.more WG.mono (n := 0) (ho_rt (.str [97, 98]) ?_ (.pure ⟨_, rfl, by simp, by simp⟩)) (by decide)
        simp (disch := first | assumption | omega) [k1, k2, k3]
        rfl
      · refine Ho.more WG.mono (n := 0) (ho_rt (.str [97, 98, 99]) ?_ (.pure ⟨_, rfl, by simp, by simp⟩)) (by decide)
        simp (disch := first | assumption | omega) [k1, k2, k3]
        rfl
      · refine Ho.more WG.mono (n := 0) (ho_rt (.str [97, 98, 99, 100]) ?_ (.pure ⟨_, rfl, by simp, by simp⟩)) (by decide)
        simp (disch := first | assumption | omega) [k1, k2, k3]
        rfl
/-- _law_text: no longer than wished, not empty if wished so -/
theorem h_text (s : List Nat) (size : Nat) (h2 : 2 ≤ s.length) (h4 : s.length ≤ 4) (hs : size ≤ 300) : Ho WG 1500 (s__law_text [.wel, .str s, .int size]) fun d => ∃ t : List Nat, d = .str t ∧ t.length ≤ size ∧ (0 < size → 0 < t.length) := by
  have hL := lineV
  unfold s__law_text f__law_text
  refine Ho.more WG.mono (n := size * 5 + 0) ?_ (by omega)
  refine ho_run rfl ?_
  refine ho_nx [.val .wel, .val (.str s), .val (.int size), .val (.str []), .no, .no, .no, .no] (by simp [emp_str]) ?_
  refine ho_for WG.mono (ds := (List.range size).map fun k : Nat => D.int k) [.val .wel, .val (.str s), .val (.int size), .val (.str []), .no, .no, .no, .no] 5 (by simp) (by simp; rw [rng_nat (by omega)]) rfl
    (fun i ρ => ∃ t a b c, ρ = [.val .wel, .val (.str s), .val (.int size), .val (.str t), a, b, c, .no] ∧ t.length ≤ size ∧ (0 < i → 0 < t.length))
    (fun u => ∃ t a b c, u = .nx [.val .wel, .val (.str s), .val (.int size), .val (.str t), a, b, c, .no] ∧ t.length ≤ size ∧ (0 < size → 0 < t.length))
    ⟨[], .no, .no, .no, rfl, by simp, by omega⟩ ?_ ?_
  · rintro i h ρ ⟨t, a, b, c, rfl, ht, hn⟩
    rw [forB_eq, List.getElem_map, List.getElem_range, bindT_nm, pure_bind]
    simp only [List.set_cons_succ, List.set_cons_zero]
    refine ho_end ?_
    by_cases big : size ≤ t.length
    · refine Ho.more WG.mono (n := 0) (ho_ifT ?_ ?_) (by decide)
      · simp (disch := first | assumption | omega)
        rw [decide_eq_true big]
      rw [exSs_cons, exS_brk]
      show Ho WG 0 (pure (Out.bk _)) _
      exact .pure ⟨t, _, _, _, rfl, ht, fun _ => by omega⟩
    · refine ho_ifF ?_ ?_
      · simp (disch := first | assumption | omega)
        rw [decide_eq_false big]
      refine ho_nil ?_
      show Ho WG 5 (exSs _ _ >>= _) _
      refine ho_ife (n := 1) (n' := 4) (fun k => k = false → 0 < t.length) ?_ (fun _ => ?_) (fun hne => ?_)
      · -- the test
        by_cases z : t.length = 0
        · have z2 : t = [] := List.length_eq_zero_iff.mp z
          subst z2
          simp
          exact (Ho.pure (by simp)).more WG.mono (by decide)
        · have := h_pick 3 (by decide) (by decide)
          have z3 : ((t.length : Int) == 0) = false := by simp; intro e; subst e; simp at z
          simp (disch := first | assumption | omega) [z3]
          refine Ho.bind (n := 1) (n' := 0) this fun d ⟨r, e, hr⟩ => ?_
          subst e
          simp
          exact .pure fun _ => by omega
      · -- one more sign
        have hp := h_pick s.length (by omega) (by omega)
        refine Ho.more WG.mono (n := 1 + 0) ?_ (by decide)
        refine ho_set (fun d => ∃ c : Nat, d = .str (t ++ [c])) ?_ (by rfl) ?_
        · simp (disch := first | assumption | omega)
          refine Ho.bind (n := 1) (n' := 0) hp fun d ⟨r, e, hr⟩ => ?_
          subst e
          rw [sub_strN hr (by omega)]
          simp (disch := first | assumption | omega)
          rw [bin_addS (by simp; omega)]
          exact .pure ⟨_, rfl⟩
        · rintro d ⟨c', rfl⟩
          refine ho_nil (ho_nil ?_)
          exact .pure ⟨t ++ [c'], _, _, _, rfl, by simp; omega, fun _ => by simp⟩
      · -- a part again
        have hne := hne rfl
        have hp := h_pick t.length hne (by omega)
        refine Ho.more WG.mono (n := 1 + (1 + (1 + 0))) ?_ (by decide)
        refine ho_set (fun d => ∃ r : Nat, d = .int r ∧ r < t.length) ?_ (by rfl) ?_
        · simp (disch := first | assumption | omega)
          exact hp
        rintro d ⟨r, rfl, hr⟩
        have h4' := h_pick 4 (by decide) (by decide)
        refine ho_set (fun d => ∃ p : List Nat, d = .str p ∧ p.length ≤ 1000) ?_ (by rfl) ?_
        · simp (disch := first | assumption | omega)
          refine Ho.bind (n := 1) (n' := 0) h4' fun d ⟨q, e, hq⟩ => ?_
          subst e
          simp (disch := first | assumption | omega)
          rw [show (r : Int) + 1 + q = ((r : Nat) : Int) + ((1 + q : Nat) : Int) by omega, cutL_part]
          exact .pure ⟨_, rfl, by simp; omega⟩
        rintro d ⟨p, rfl, hpl⟩
        have lastly : ∀ (p : List Nat), p.length ≤ 1000 → ∀ J, J = (fun u => match u with
            | Out.nx ρ' => ∃ t a b c, ρ' = [Sl.val D.wel, .val (.str s), .val (.int size), .val (.str t), a, b, c, .no] ∧ t.length ≤ size ∧ (0 < i + 1 → 0 < t.length)
            | .ct ρ' => ∃ t a b c, ρ' = [Sl.val D.wel, .val (.str s), .val (.int size), .val (.str t), a, b, c, .no] ∧ t.length ≤ size ∧ (0 < i + 1 → 0 < t.length)
            | .bk ρ' => ∃ t a b c, Out.nx ρ' = .nx [Sl.val D.wel, .val (.str s), .val (.int size), .val (.str t), a, b, c, .no] ∧ t.length ≤ size ∧ (0 < size → 0 < t.length)
            | u => ∃ t a b c, u = .nx [Sl.val D.wel, .val (.str s), .val (.int size), .val (.str t), a, b, c, .no] ∧ t.length ≤ size ∧ (0 < size → 0 < t.length)) →
            Ho WG 0 (exSs (.cons (.set 0 3 (.slc (.bin .Add (.var 3) (.var 6)) .no (.so (.var 2)))) .nil) [.val .wel, .val (.str s), .val (.int size), .val (.str t), .val (.int i), .val (.int r), .val (.str p), .no] >>= fun u => (match u with
              | .nx ρ' => exSs .nil ρ'
              | o => pure o) >>= pure) J := fun p hp J eJ => by
          subst eJ
          refine ho_nx [.val .wel, .val (.str s), .val (.int size), .val (.str ((t ++ p).take size)), .val (.int i), .val (.int r), .val (.str p), .no] ?_ ?_
          · simp (disch := first | assumption | omega)
            rw [slc_str (by simp; omega), cutL_to]
            simp
          · refine ho_nil (ho_nil ?_)
            exact .pure ⟨_, _, _, _, rfl, by rw [List.length_take]; omega, fun _ => by rw [List.length_take, List.length_append]; omega⟩
        refine ho_ife (fun _ => True) ?_ (fun _ => ?_) (fun _ => ?_)
        · simp
          refine Ho.bind (n := 1) (n' := 0) h4' fun d ⟨q, e, hq⟩ => ?_
          subst e
          simp
          exact .pure trivial
        · refine Ho.more WG.mono (n := 0 + 0) ?_ (by decide)
          refine ho_set (fun d => ∃ p : List Nat, d = .str p ∧ p.length ≤ 1000) ?_ (by rfl) ?_
          · have rp : rngOf [.int (p.length : Int)] = pure ((List.range p.length).map fun k : Nat => D.int k) := rng_nat (by omega)
            simp (disch := first | assumption | omega) [rp]
            rw [compL_map (r := fun k : Nat => D.str [p[p.length - 1 - k]?.getD 0])]
            · simp [emp_str]
              rw [met_join (f := fun k => [p[p.length - 1 - k]?.getD 0]) (by rw [flat_one (fun k => p[p.length - 1 - k]?.getD 0)]; simp; omega)]
              exact .pure ⟨_, rfl, by rw [flat_one (fun k => p[p.length - 1 - k]?.getD 0)]; simp; omega⟩
            · intro k hk
              have hk := List.mem_range.mp hk
              have e1 : subD (.str p) (.int ((p.length : Int) - 1 - k)) = pure (.str [p[p.length - 1 - k]?.getD 0]) := by
                rw [show (p.length : Int) - 1 - k = ((p.length - 1 - k : Nat) : Int) by omega, sub_strN (by omega) (by omega), List.getElem?_eq_getElem (by omega)]; rfl
              unfold cmpF
              simp (disch := first | assumption | omega) [e1]
          · rintro d ⟨p', rfl, hp'⟩
            exact ho_nil (lastly p' hp' _ rfl)
        · refine ho_nil ?_
          exact lastly p hpl _ rfl
  · rintro u hu
    have : ∃ t a b c, u = .nx [.val .wel, .val (.str s), .val (.int size), .val (.str t), a, b, c, .no] ∧ t.length ≤ size ∧ (0 < size → 0 < t.length) := by
      rcases hu with h | ⟨ρ', rfl, t, a, b, c, rfl, h1, h2⟩
      · exact h
      · exact ⟨t, a, b, c, rfl, h1, h2⟩
    obtain ⟨t, a, b, c, rfl, h1, h2⟩ := this
    show Ho WG 0 (exSs _ _ >>= _) _
    exact ho_rt (.str t) (by simp) (.pure ⟨t, rfl, h1, h2⟩)
end K86
set_option Elab.async false
set_option linter.all false
set_option maxRecDepth 100000
set_option maxHeartbeats 1000000
/-! law k86: the case that is drawn -/
namespace K86
open L2 TI
/-- a part of the new text and other signs -/
theorem h_part (s new : List Nat) (h2 : 2 ≤ s.length) (h4 : s.length ≤ 4) (hn : new.length ≤ 300) : Ho WG 4000 (s__law_part [.wel, .str new, .str s]) fun d => ∃ t : List Nat, d = .str t ∧ t.length ≤ 1000 := by
  have hL := lineV
  unfold s__law_part f__law_part
  refine ho_run rfl ?_
  refine Ho.more WG.mono (n := 1 + (1 + (1500 + 1600))) ?_ (by decide)
  refine ho_set (fun d => ∃ z : Nat, d = .int z ∧ z < 9) ?_ (by rfl) ?_
  · simp
    exact h_pick 9 (by decide) (by decide)
  rintro d ⟨z, rfl, hz⟩
  refine ho_ife (fun k => k = false → 0 < new.length) ?_ (fun _ => ?_) (fun hne => ?_)
  · by_cases q : new.length = 0
    · have : new = [] := List.length_eq_zero_iff.mp q
      subst this
      simp
      exact (Ho.pure (by simp)).more WG.mono (by decide)
    · have z3 : ((new.length : Int) == 0) = false := by
        have : ¬ (new.length : Int) = 0 := by omega
        simpa using this
      simp (disch := first | assumption | omega) [z3]
      refine Ho.bind (n := 1) (n' := 0) (h_pick 4 (by decide) (by decide)) fun d ⟨r, e, hr⟩ => ?_
      subst e
      simp
      exact .pure fun _ => by omega
  · refine Ho.more WG.mono (n := 1500 + 0) ?_ (by decide)
    refine ho_ret (fun d => ∃ t : List Nat, d = .str t ∧ t.length ≤ 1000) ?_ (fun d h => .pure h)
    simp
    refine Ho.lif (n := 1500) (n' := 0) (h_text s z h2 h4 (by omega)) fun d ⟨t, e, h1, _⟩ => ?_
    subst e
    exact .pure ⟨_, rfl, t, rfl, by omega⟩
  · have hne := hne rfl
    refine Ho.more WG.mono (n := 1 + (1 + (1501 + 0))) ?_ (by decide)
    refine ho_nil ?_
    refine ho_set (fun d => ∃ f : Nat, d = .int f ∧ f < new.length) ?_ (by rfl) ?_
    · simp (disch := first | assumption | omega)
      exact h_pick new.length hne (by omega)
    rintro d ⟨f, rfl, hf⟩
    refine ho_nx [.val .wel, .val (.str new), .val (.str s), .val (.int z), .val (.int f), .val (.str ((new.drop f).take z)), .no] (by simp (disch := first | assumption | omega) [cutL_part]) ?_
    have hpl : ((new.drop f).take z).length ≤ 300 := by simp; omega
    generalize (new.drop f).take z = p at hpl ⊢
    have lastly : ∀ p : List Nat, p.length ≤ 300 → ∀ y, Ho WG (1501 + 0) (exSs (.cons (.ret (.bin .Add (.var 5) (.call "_law_text" s__law_text (.cons (.var 0) (.cons (.var 2) (.cons (.call "_law_pick" s__law_pick (.cons (.var 0) (.cons (.con (.int 3)) .nil))) .nil)))))) .nil) [.val .wel, .val (.str new), .val (.str s), .val (.int z), .val (.int f), .val (.str p), y] >>= fun u => match u with
        | .rt d => pure d
        | .nx _ => pure .non
        | .ex e _ => M.thr e
        | _ => M.stk) fun d => ∃ t : List Nat, d = .str t ∧ t.length ≤ 1000 := by
      intro p hp y
      refine ho_ret (fun d => ∃ t : List Nat, d = .str t ∧ t.length ≤ 1000) ?_ (fun d h => .pure h)
      simp
      refine Ho.lif (n := 1501) (n' := 0) (Q := fun d => ∃ t : List Nat, d = D.str t ∧ t.length ≤ 1000) ?_ fun d ⟨t, e, h1⟩ => ?_
      · refine Ho.bind (n := 1) (n' := 1500) (h_pick 3 (by decide) (by decide)) fun d ⟨r, e, hr⟩ => ?_
        subst e
        refine Ho.bind (n := 1500) (n' := 0) (h_text s r h2 h4 (by omega)) fun d ⟨t, e, h1, _⟩ => ?_
        subst e
        rw [bin_addS (by omega)]
        exact .pure ⟨_, rfl, by simp; omega⟩
      · subst e
        exact .pure ⟨_, rfl, t, rfl, h1⟩
    refine ho_ife (fun _ => True) ?_ (fun _ => ?_) (fun _ => ?_)
    · simp
      refine Ho.bind (n := 1) (n' := 0) (h_pick 3 (by decide) (by decide)) fun d ⟨q, e, hq⟩ => ?_
      subst e
      simp
      exact .pure trivial
    · refine Ho.more WG.mono (n := 0 + (1501 + 0)) ?_ (by decide)
      refine ho_set (fun d => ∃ p : List Nat, d = .str p ∧ p.length ≤ 300) ?_ (by rfl) ?_
      · have rp : rngOf [.int (p.length : Int)] = pure ((List.range p.length).map fun k : Nat => D.int k) := rng_nat (by omega)
        simp (disch := first | assumption | omega) [rp]
        rw [compL_map (r := fun k : Nat => D.str [p[p.length - 1 - k]?.getD 0])]
        · simp [emp_str]
          rw [met_join (f := fun k => [p[p.length - 1 - k]?.getD 0]) (by rw [flat_one (fun k => p[p.length - 1 - k]?.getD 0)]; simp; omega)]
          exact .pure ⟨_, rfl, by rw [flat_one (fun k => p[p.length - 1 - k]?.getD 0)]; simp; omega⟩
        · intro k hk
          have hk := List.mem_range.mp hk
          have e1 : subD (.str p) (.int ((p.length : Int) - 1 - k)) = pure (.str [p[p.length - 1 - k]?.getD 0]) := by
            rw [show (p.length : Int) - 1 - k = ((p.length - 1 - k : Nat) : Int) by omega, sub_strN (by omega) (by omega), List.getElem?_eq_getElem (by omega)]; rfl
          unfold cmpF
          simp (disch := first | assumption | omega) [e1]
      · rintro d ⟨p', rfl, hp'⟩
        exact ho_nil (lastly p' hp' _)
    · refine ho_nil ?_
      exact lastly p hpl _
def isB (d : D) : Prop := ∃ b : Bool, d = .bl b
def ROn (n : Nat) : Rl → Prop
  | .eld e _ m => e < n ∧ (m ≤ 1000 ∧ 2 ≤ m)
  | .bak w _ _ m => w ≤ 1000 ∧ (m ≤ 1000 ∧ (1 ≤ w ∧ 2 ≤ m))
theorem ROn.ro {E : List T} {r : Rl} (h : ROn E.length r) : RO E r := by cases r <;> exact h
theorem most6 (i : Nat) (h : i < 6) : ∃ m : Nat, subD (.lst [.int 2, .int 3, .int 4, .int 5, .int 7, .int 300]) (.int i) = pure (.int m) ∧ 2 ≤ m ∧ m ≤ 300 := by
  have : i = 0 ∨ i = 1 ∨ i = 2 ∨ i = 3 ∨ i = 4 ∨ i = 5 := by omega
  rcases this with rfl | rfl | rfl | rfl | rfl | rfl
  · exact ⟨2, rfl, by omega⟩
  · exact ⟨3, rfl, by omega⟩
  · exact ⟨4, rfl, by omega⟩
  · exact ⟨5, rfl, by omega⟩
  · exact ⟨7, rfl, by omega⟩
  · exact ⟨300, rfl, by omega⟩
theorem wide7 (i : Nat) (h : i < 7) : ∃ m : Nat, subD (.lst [.int 1, .int 2, .int 3, .int 4, .int 6, .int 9, .int 300]) (.int i) = pure (.int m) ∧ 1 ≤ m ∧ m ≤ 300 := by
  have : i = 0 ∨ i = 1 ∨ i = 2 ∨ i = 3 ∨ i = 4 ∨ i = 5 ∨ i = 6 := by omega
  rcases this with rfl | rfl | rfl | rfl | rfl | rfl | rfl
  · exact ⟨1, rfl, by omega⟩
  · exact ⟨2, rfl, by omega⟩
  · exact ⟨3, rfl, by omega⟩
  · exact ⟨4, rfl, by omega⟩
  · exact ⟨6, rfl, by omega⟩
  · exact ⟨9, rfl, by omega⟩
  · exact ⟨300, rfl, by omega⟩
theorem size11 (i : Nat) (h : i < 11) : ∃ m : Nat, subD (.lst [.int 0, .int 1, .int 4, .int 6, .int 7, .int 8, .int 8, .int 9, .int 9, .int 10, .int 10]) (.int i) = pure (.int m) ∧ m ≤ 10 := by
  have : i = 0 ∨ i = 1 ∨ i = 2 ∨ i = 3 ∨ i = 4 ∨ i = 5 ∨ i = 6 ∨ i = 7 ∨ i = 8 ∨ i = 9 ∨ i = 10 := by omega
  rcases this with rfl | rfl | rfl | rfl | rfl | rfl | rfl | rfl | rfl | rfl | rfl
  · exact ⟨0, rfl, by omega⟩
  · exact ⟨1, rfl, by omega⟩
  · exact ⟨4, rfl, by omega⟩
  · exact ⟨6, rfl, by omega⟩
  · exact ⟨7, rfl, by omega⟩
  · exact ⟨8, rfl, by omega⟩
  · exact ⟨8, rfl, by omega⟩
  · exact ⟨9, rfl, by omega⟩
  · exact ⟨9, rfl, by omega⟩
  · exact ⟨10, rfl, by omega⟩
  · exact ⟨10, rfl, by omega⟩
theorem h_rule (n : Nat) (hn : n ≤ 1000) : Ho WG 10 (s__law_rule [.wel, .int n]) fun d => ∃ r : Rl, d = r.d ∧ ROn n r := by
  have hL := lineV
  have l4 : (4 : Nat) ≤ line := by omega
  have l5 : (5 : Nat) ≤ line := by omega
  have l6 : (6 : Nat) ≤ line := by omega
  have l7 : (7 : Nat) ≤ line := by omega
  unfold s__law_rule f__law_rule
  refine ho_run rfl ?_
  refine Ho.more WG.mono (n := 1 + (1 + (1 + (1 + (1 + 0))))) ?_ (by decide)
  refine ho_set (fun d => ∃ m : Nat, d = .int m ∧ 2 ≤ m ∧ m ≤ 300) ?_ (by rfl) ?_
  · simp (disch := first | assumption | omega)
    refine Ho.bind (n := 1) (n' := 0) (h_pick 6 (by decide) (by decide)) fun d ⟨r, e, h⟩ => ?_
    subst e
    obtain ⟨m, e1, e2, e3⟩ := most6 r h
    rw [e1]
    exact .pure ⟨m, rfl, e2, e3⟩
  rintro d ⟨m, rfl, hm2, hm3⟩
  refine ho_set isB ?_ (by rfl) ?_
  · simp
    refine Ho.bind (n := 1) (n' := 0) (h_pick 3 (by decide) (by decide)) fun d ⟨r, e, h⟩ => ?_
    subst e
    simp
    exact .pure ⟨_, rfl⟩
  rintro d ⟨b, rfl⟩
  refine ho_ife (fun k => k = true → 0 < n) ?_ (fun hk => ?_) (fun _ => ?_)
  · by_cases z : 0 < n
    · simp [z]
      refine Ho.bind (n := 1) (n' := 0) (h_pick 2 (by decide) (by decide)) fun d ⟨r, e, h⟩ => ?_
      subst e
      simp
      exact .pure trivial
    · simp [z]
      exact (Ho.pure (by simp)).more WG.mono (by decide)
  · have hk := hk rfl
    refine Ho.more WG.mono (n := 1 + 0) ?_ (by decide)
    refine ho_ret (fun d => ∃ r : Rl, d = r.d ∧ ROn n r) ?_ (fun d h => .pure h)
    simp
    refine Ho.lif (n := 1) (n' := 0) (Q := fun d => ∃ r : Nat, d = D.tup [.str ("elder" : PySem.Str).cps.toList, .int r, .bl b, .int m] ∧ r < n) ?_ fun d ⟨r, e, h⟩ => ?_
    · refine Ho.bind (n := 1) (n' := 0) (h_pick n hk (by omega)) fun d ⟨r, e, h⟩ => ?_
      subst e
      simp [l4]
      exact .pure ⟨r, rfl, h⟩
    · subst e
      exact .pure ⟨_, rfl, .eld r b m, rfl, h, by omega, hm2⟩
  · refine Ho.more WG.mono (n := 1 + (1 + 0)) ?_ (by decide)
    refine ho_nil ?_
    refine ho_set (fun d => ∃ w : Nat, d = .int w ∧ 1 ≤ w ∧ w ≤ 300) ?_ (by rfl) ?_
    · simp (disch := first | assumption | omega)
      refine Ho.bind (n := 1) (n' := 0) (h_pick 7 (by decide) (by decide)) fun d ⟨r, e, h⟩ => ?_
      subst e
      obtain ⟨m, e1, e2, e3⟩ := wide7 r h
      rw [e1]
      exact .pure ⟨m, rfl, e2, e3⟩
    rintro d ⟨w, rfl, hw1, hw2⟩
    refine ho_ret (fun d => ∃ r : Rl, d = r.d ∧ ROn n r) ?_ (fun d h => .pure h)
    simp
    refine Ho.lif (n := 1) (n' := 0) (Q := fun d => ∃ a : Nat, d = D.tup [.str ("back" : PySem.Str).cps.toList, .int w, .bl (decide (a = 0)), .bl b, .int m]) ?_ fun d ⟨r, e⟩ => ?_
    · refine Ho.bind (n := 1) (n' := 0) (h_pick 2 (by decide) (by decide)) fun d ⟨r, e, h⟩ => ?_
      subst e
      have er : ((r : Int) == 0) = decide (r = 0) := by
        by_cases z : r = 0
        · subst z; rfl
        · have : ¬ (r : Int) = 0 := by omega
          simp [z]
      simp [l5, er]
      exact .pure ⟨r, rfl⟩
    · subst e
      exact .pure ⟨_, rfl, .bak w _ b m, rfl, by omega, by omega, hw1, hm2⟩
theorem strs_all {E : Nat} : ∀ l : List D, (∀ x ∈ l, ∃ t : List Nat, x = .str t ∧ t.length ≤ 1000) → ∃ ts : List T, l = ts.map D.str ∧ ∀ u ∈ ts, u.length ≤ 1000
  | [], _ => ⟨[], rfl, by simp⟩
  | x :: l, h => by
    obtain ⟨t, rfl, ht⟩ := h x List.mem_cons_self
    obtain ⟨ts, rfl, hts⟩ := @strs_all E l fun y hy => h y (List.mem_cons_of_mem _ hy)
    exact ⟨t :: ts, rfl, fun u hu => by
      rcases List.mem_cons.mp hu with rfl | hu
      · exact ht
      · exact hts u hu⟩
theorem rules_all {n : Nat} : ∀ l : List D, (∀ x ∈ l, ∃ r : Rl, x = r.d ∧ ROn n r) → ∃ rs : List Rl, l = rs.map Rl.d ∧ ∀ r ∈ rs, ROn n r
  | [], _ => ⟨[], rfl, by simp⟩
  | x :: l, h => by
    obtain ⟨t, rfl, ht⟩ := h x List.mem_cons_self
    obtain ⟨ts, rfl, hts⟩ := rules_all l fun y hy => h y (List.mem_cons_of_mem _ hy)
    exact ⟨t :: ts, rfl, fun u hu => by
      rcases List.mem_cons.mp hu with rfl | hu
      · exact ht
      · exact hts u hu⟩
def isC (d : D) : Prop := ∃ (E : List T) (rs : List Rl) (new : T), d = caseD E rs new ∧ CO E rs new ∧ 0 < rs.length ∧ rs.length ≤ 8 ∧ new.length ≤ 18
theorem h_case : Ho WG 20000 (s__law_case [.wel]) isC := by
  have hL := lineV
  have l3 : (3 : Nat) ≤ line := by omega
  have l11 : (11 : Nat) ≤ line := by omega
  unfold s__law_case f__law_case
  refine ho_run rfl ?_
  refine Ho.more WG.mono (n := 10 + (1 + (1 + (1 + (1 + (1500 + (12001 + (80 + 0)))))))) ?_ (by decide)
  refine ho_set (fun d => ∃ s : List Nat, d = .str s ∧ 2 ≤ s.length ∧ s.length ≤ 4) ?_ (by rfl) ?_
  · simp
    exact h_signs
  rintro d ⟨s, rfl, hs2, hs4⟩
  refine ho_set (fun d => ∃ z : Nat, d = .int z ∧ z ≤ 10) ?_ (by rfl) ?_
  · simp [l11]
    refine Ho.bind (n := 1) (n' := 0) (h_pick 11 (by decide) (by decide)) fun d ⟨r, e, h⟩ => ?_
    subst e
    obtain ⟨m, e1, e2⟩ := size11 r h
    rw [e1]
    exact .pure ⟨m, rfl, e2⟩
  rintro d ⟨z, rfl, hz⟩
  refine ho_set (fun d => ∃ m : Nat, d = .int m ∧ 1 ≤ m ∧ m ≤ 4) ?_ (by rfl) ?_
  · simp
    refine Ho.bind (n := 1) (n' := 0) (h_pick 4 (by decide) (by decide)) fun d ⟨r, e, h⟩ => ?_
    subst e
    simp
    exact .pure ⟨r + 1, by congr 1; omega, by omega, by omega⟩
  rintro d ⟨m, rfl, hm1, hm4⟩
  refine ho_do (fun ρ' => ∃ z : Nat, z ≤ 18 ∧ ρ' = [.val .wel, .val (.str s), .val (.int z), .val (.int m), .no, .no, .no]) ?_ ?_
  · rw [exS_ife]
    refine Ho.lif (n := 1) (n' := 0) (Q := fun _ => True) ?_ fun k _ => ?_
    · simp
      refine Ho.bind (n := 1) (n' := 0) (h_pick 13 (by decide) (by decide)) fun d ⟨r, e, h⟩ => ?_
      subst e
      simp
      exact .pure trivial
    · cases k with
      | true => simp; exact .pure ⟨_, rfl, 18, by omega, rfl⟩
      | false => simp; exact .pure ⟨_, rfl, z, by omega, rfl⟩
  rintro ρ' ⟨z, hz, rfl⟩
  refine ho_do (fun ρ' => ∃ m : Nat, 1 ≤ m ∧ m ≤ 8 ∧ ρ' = [.val .wel, .val (.str s), .val (.int z), .val (.int m), .no, .no, .no]) ?_ ?_
  · rw [exS_ife]
    refine Ho.lif (n := 1) (n' := 0) (Q := fun _ => True) ?_ fun k _ => ?_
    · simp
      refine Ho.bind (n := 1) (n' := 0) (h_pick 11 (by decide) (by decide)) fun d ⟨r, e, h⟩ => ?_
      subst e
      simp
      exact .pure trivial
    · cases k with
      | true => simp; exact .pure ⟨_, rfl, 8, by omega, by omega, rfl⟩
      | false => simp; exact .pure ⟨_, rfl, m, by omega, by omega, rfl⟩
  rintro ρ' ⟨m, hm1, hm8, rfl⟩
  refine ho_set (fun d => ∃ t : List Nat, d = .str t ∧ t.length ≤ 18) ?_ (by rfl) ?_
  · simp
    exact (h_text s z hs2 hs4 (by omega)).imp fun d ⟨t, e, h1, _⟩ => ⟨t, e, by omega⟩
  rintro d ⟨new, rfl, hnew⟩
  refine ho_set (fun d => ∃ E : List T, d = .tup (E.map D.str) ∧ E.length ≤ 3 ∧ ∀ u ∈ E, u.length ≤ 1000) ?_ (by rfl) ?_
  · simp
    refine Ho.bind (n := 1) (n' := 12000) (h_pick 4 (by decide) (by decide)) fun d ⟨r, e, h⟩ => ?_
    subst e
    have rr : rngOf [.int (r : Int)] = pure ((List.range r).map fun k : Nat => D.int k) := rng_nat (by omega)
    have hrl : r ≤ line := by omega
    simp [rr, hrl]
    refine Ho.more WG.mono (n := r * 4000 + 0) ?_ (by omega)
    refine Ho.bind (Q := fun l : List D => l.length = r ∧ ∀ x ∈ l, ∃ t : List Nat, x = .str t ∧ t.length ≤ 1000) ?_ fun l ⟨h1, h2⟩ => ?_
    · have := Ho.compL (W := WG) (b := 4000) (ds := (List.range r).map fun k : Nat => D.int k) (R := fun x : D => ∃ t : List Nat, x = .str t ∧ t.length ≤ 1000) (f := cmpF [.val .wel, .val (.str s), .val (.int z), .val (.int m), .val (.str new), .no, .no] (.nm 6) .no (.call "_law_part" s__law_part (.cons (.var 0) (.cons (.var 4) (.cons (.var 1) .nil)))) [("k", 6)]) ?_
      · simpa using this
      · intro d hd
        unfold cmpF
        obtain ⟨k, hk, rfl⟩ := List.mem_map.mp hd
        simp
        exact Ho.map (Ho.nox (h_part s new hs2 hs4 (by omega))) fun d j => ⟨d, rfl, j⟩
    · obtain ⟨E, rfl, hE⟩ := strs_all (E := 0) l h2
      have hl : E.length ≤ line := by simp at h1; omega
      simp [hl]
      exact .pure ⟨E, rfl, by simp at h1; omega, hE⟩
  rintro d ⟨E, rfl, hE3, hEt⟩
  refine ho_ret isC ?_ (fun d h => .pure h)
  simp
  refine Ho.lif (n := 80) (n' := 0) (Q := isC) ?_ fun d h => .pure ⟨d, rfl, h⟩
  have rr : rngOf [.int (m : Int)] = pure ((List.range m).map fun k : Nat => D.int k) := rng_nat (by omega)
  have hml : m ≤ line := by omega
  simp [rr, hml]
  refine Ho.more WG.mono (n := m * 10 + 0) ?_ (by omega)
  refine Ho.bind (Q := fun l : List D => l.length = m ∧ ∀ x ∈ l, ∃ r : Rl, x = r.d ∧ ROn E.length r) ?_ fun l ⟨h1, h2⟩ => ?_
  · have := Ho.compL (W := WG) (b := 10) (ds := (List.range m).map fun k : Nat => D.int k) (R := fun x : D => ∃ r : Rl, x = r.d ∧ ROn E.length r) (f := cmpF [.val .wel, .val (.str s), .val (.int z), .val (.int m), .val (.str new), .val (.tup (E.map D.str)), .no] (.nm 6) .no (.call "_law_rule" s__law_rule (.cons (.var 0) (.cons (.blt .len (.cons (.var 5) .nil)) .nil))) [("k", 6)]) ?_
    · simpa using this
    · intro d hd
      unfold cmpF
      obtain ⟨k, hk, rfl⟩ := List.mem_map.mp hd
      simp
      exact Ho.map (Ho.nox (h_rule E.length (by omega))) fun d j => ⟨d, rfl, j⟩
  · obtain ⟨rs, rfl, hrs⟩ := rules_all l h2
    have h1 : rs.length = m := by simpa using h1
    have hl : rs.length ≤ line := by omega
    simp [hl, l3]
    exact .pure ⟨E, rs, new, rfl, ⟨by omega, hEt, by omega, by omega, fun r hr => (hrs r hr).ro⟩, by omega, by omega, hnew⟩
end K86
set_option Elab.async false
set_option linter.all false
set_option maxRecDepth 100000
set_option maxHeartbeats 1000000
/-! law k86: strange rules asked -/
namespace K86
open L2 TI
def gS (n : Nat) (d : D) : Prop := badN n d ∧ okA 5 d
theorem in_words {E : List T} {rs : List Rl} {new : T} (C : CO E rs new) (d : D) (h : gS rs.length d) (s x y : Sl) (m : D) :
    ∃ y', exSs (.cons (.for_ (.nm 5) (.of (.tup (.cons (.con (.str "most")) (.cons (.con (.str "wide")) (.cons (.con (.str "least most")) (.cons (.con (.str "least wide")) .nil)))))) (.cons (.ife (.nt (.call "_law_alike" (s__law_alike 6) (.cons (.call "_law_refused" s__law_refused (.cons (.var 5) (.cons (.var 1) (.cons (.var 4) .nil)))) (.cons (.tup (.cons (.con (.str "refused")) (.cons (.con (.str "rule")) (.cons (.var 4) .nil)))) .nil)))) (.cons (.ret (.con (.bool false))) .nil) .nil) .nil)) .nil) [.val .wel, .val (caseD E rs new), .val m, s, .val d, y] = pure (.nx [.val .wel, .val (caseD E rs new), .val m, s, .val d, y']) := by
  have hL := lineV
  have l3 : (3 : Nat) ≤ line := by omega
  have l4 : (4 : Nat) ≤ line := by omega
  have a3 := r_alike 6 (refD "rule" d) (okR 4 _ _ h.2)
  refine ⟨.val (.str ("least wide" : PySem.Str).cps.toList), sts_end ?_⟩
  refine sts_for (ds := words.map fun w => D.str w.cps.toList) [.val .wel, .val (caseD E rs new), .val m, s, .val d, y] (by simp [l4, words, itemsD]) (by simp)
    (fun i ρ => ρ = [.val .wel, .val (caseD E rs new), .val m, s, .val d, if i = 0 then y else .val (.str (words.getD (i - 1) "").cps.toList)]) rfl ?_ ?_
  · rintro i hi ρ rfl
    have hi : i < words.length := by simpa using hi
    have f1 := r_refused_bad C d h.1 words[i] (List.getElem_mem hi)
    refine ⟨[.val .wel, .val (caseD E rs new), .val m, s, .val d, .val (.str (words[i]).cps.toList)], .inl ?_, ?_⟩
    · unfold refD at a3 f1
      unfold forB
      simp only [List.getElem_map, bindT_nm, pure_bind, List.set_cons_succ, List.set_cons_zero]
      generalize words[i] = w at f1 ⊢
      simp [f1, l3, a3]
    · simp [List.getD_eq_getElem?_getD, List.getElem?_eq_getElem hi]
  · rintro ρ' rfl
    exact sts_nil rfl
theorem r_strange {E : List T} {rs : List Rl} {new : T} (C : CO E rs new) : Ho WG 10 (s__law_strange_asked [.wel, caseD E rs new]) fun d => d = .bl true := by
  have hL := lineV
  have hr := C.r
  have l1 : (1 : Nat) ≤ line := by omega
  have l3 : (3 : Nat) ≤ line := by omega
  have l10 : (10 : Nat) ≤ line := by omega
  have gn : gS rs.length (.int rs.length) := ⟨by show ¬ (0 ≤ (rs.length : Int) ∧ (rs.length : Int) < rs.length); omega, trivial⟩
  have gt : gS rs.length (.bl true) := ⟨trivial, trivial⟩
  unfold s__law_strange_asked f__law_strange_asked
  refine ho_run rfl ?_
  refine Ho.more WG.mono (n := (1 + 3 * 0) + 0) ?_ (by decide)
  refine ho_nx [.val .wel, .val (caseD E rs new), .val (.int rs.length), .no, .no, .no] (by simp [case_1]) ?_
  obtain ⟨l, hl⟩ : ∃ l : List D, l = [.int rs.length, .int (-1), .bl true, .bl false, .non, .str ("0" : PySem.Str).cps.toList, .tup [.int 0], .int (10 ^ 60), .int ((rs.length : Int) + 1), .lst [.int 0]] := ⟨_, rfl⟩
  have hll : l.length = 10 := by rw [hl]; rfl
  have hg : ∀ x ∈ l, gS rs.length x := by
    intro x hx
    rw [hl] at hx
    simp only [List.mem_cons, List.not_mem_nil, or_false] at hx
    rcases hx with rfl | rfl | rfl | rfl | rfl | rfl | rfl | rfl | rfl | rfl
    · exact gn
    · exact ⟨by show ¬ ((0 : Int) ≤ -1 ∧ _); omega, trivial⟩
    · exact gt
    · exact ⟨trivial, trivial⟩
    · exact ⟨trivial, trivial⟩
    · exact ⟨trivial, trivial⟩
    · exact ⟨trivial, by simp, fun x hx => by simp at hx; subst hx; trivial⟩
    · refine ⟨?_, trivial⟩
      show ¬ ((0 : Int) ≤ 10 ^ 60 ∧ (10 ^ 60 : Int) < rs.length)
      have : (1000 : Int) < 10 ^ 60 := by decide
      omega
    · exact ⟨by show ¬ ((0 : Int) ≤ rs.length + 1 ∧ (rs.length : Int) + 1 < rs.length); omega, trivial⟩
    · exact ⟨trivial, by simp, fun x hx => by simp at hx; subst hx; trivial⟩
  have hpow : binD .Pow (.int 10) (.int 60) = pure (.int (10 ^ 60)) := rfl
  refine ho_nx [.val .wel, .val (caseD E rs new), .val (.int rs.length), .val (.lst l), .no, .no] ?_ ?_
  · rw [hl]
    simp only [exS_set0, ev_lst, evs_cons, evs_nil, ev_var, ev_neg, ev_con, ev_tup, ev_bin, ev_lst, vget_0, vget_s, d_val, opt_some, pure_bind, conD_int, conD_bool, conD_none, conD_str, asI_int, hpow, bin_addI, bind_pure_comp, map_pure]
    simp [l1, l10]
  refine ho_forE WG.mono (n0 := 1) (N := 3) [.val .wel, .val (caseD E rs new), .val (.int rs.length), .val (.lst l), .no, .no] 0 (fun ds => ∀ d ∈ ds, gS rs.length d) ?_ (by simp)
    (fun i ρ => ∃ x y, ρ = [.val .wel, .val (caseD E rs new), .val (.int rs.length), .val (.lst l), x, y]) (fun _ => False) ⟨.no, .no, rfl⟩ ?_ ?_
  · simp
    refine Ho.bind (n := 1) (n' := 0) (h_pick 10 (by decide) (by decide)) fun d ⟨r, e, h⟩ => ?_
    subst e
    have hrl : r < l.length := by omega
    simp [atI_n, hrl, l3, itemsD]
    exact .pure ⟨rfl, fun d hd => by
      simp only [List.mem_cons, List.not_mem_nil, or_false] at hd
      rcases hd with rfl | rfl | rfl
      · exact hg _ (List.getElem_mem hrl)
      · exact gn
      · exact gt⟩
  · rintro ds hds i hi ρ ⟨x, y, rfl⟩
    obtain ⟨y', hy⟩ := in_words C ds[i] (hds _ (List.getElem_mem hi)) (.val (.lst l)) x y (.int rs.length)
    unfold forB
    simp only [bindT_nm, pure_bind, List.set_cons_succ, List.set_cons_zero]
    rw [hy]
    exact .pure ⟨_, _, rfl⟩
  · rintro u (h | ⟨ρ', rfl, x, y, rfl⟩)
    · exact h.elim
    · exact ho_rt (.bl true) (by simp) (.pure rfl)
end K86
set_option Elab.async false
set_option linter.all false
set_option maxRecDepth 100000
set_option maxHeartbeats 2000000
/-! law k86: the law -/
namespace K86
open L2 TI
theorem ok_rule (r : Rl) : okA 4 r.d := by
  cases r <;> exact ⟨by simp, fun x hx => by
    simp only [List.mem_cons, List.not_mem_nil, or_false] at hx
    rcases hx with rfl | rfl | rfl | rfl | rfl <;> trivial⟩
theorem ok_case {E : List T} {rs : List Rl} {new : T} (C : CO E rs new) : okA 6 (caseD E rs new) := by
  refine ⟨by simp, fun x hx => ?_⟩
  simp only [List.mem_cons, List.not_mem_nil, or_false] at hx
  rcases hx with rfl | rfl | rfl
  · refine ⟨by simpa using C.e, fun x hx => ?_⟩
    obtain ⟨t, _, rfl⟩ := List.mem_map.mp hx
    trivial
  · refine ⟨by simpa using C.r, fun x hx => ?_⟩
    obtain ⟨t, _, rfl⟩ := List.mem_map.mp hx
    exact ok_rule t
  · trivial
theorem rule_pure (r : Rl) : r.d.pure = true := by cases r <;> rfl
theorem cut5d {a b c d : D} : cutL [a, b, c, d] none (some 3) = [a, b, c] := rfl
theorem r_mosts (r : Rl) : ∃ L : Int, bltD .len [r.d] = pure (.int L) ∧ subD r.d (.int (L - 1)) = pure (.int r.most) := by
  cases r with
  | eld e t m => exact ⟨4, rfl, by simp [Rl.d, at_3, Rl.most]⟩
  | bak w a t m => exact ⟨5, rfl, by simp [Rl.d, at_4, Rl.most]⟩
theorem top_most (rs : List Rl) : mostsD (rs.map Rl.top) = .lst (rs.map fun _ => D.int 300) := by
  unfold mostsD nD
  simp only [List.map_map]
  congr 1
  refine List.map_congr_left fun r _ => ?_
  show D.int ((Rl.top r).most : Nat) = D.int 300
  rw [show (Rl.top r).most = 300 from wm_most]
  rfl
theorem h_law : Ho WG 30000 (exSs b_law ([.no, .val .wel] ++ List.replicate 11 .no)) fun u => u = .rt (.bl true) := by
  have hL := lineV
  have l1 : (1 : Nat) ≤ line := by omega
  have l3 : (3 : Nat) ≤ line := by omega
  have l5 : (5 : Nat) ≤ line := by omega
  unfold b_law
  refine ho_end ?_
  refine Ho.more WG.mono (n := 20000 + (1 + (2 * 0 + (10 + 0)))) ?_ (by decide)
  refine ho_do (fun ρ' => ∃ (E : List T) (rs : List Rl) (new : T), ρ' = [.no, .val .wel, .val (caseD E rs new), .no, .no, .no, .no, .no, .no, .no, .no, .no, .no] ∧ CO E rs new ∧ 0 < rs.length ∧ rs.length ≤ 8 ∧ new.length ≤ 18) ?_ ?_
  · simp
    exact h_case.lif (n' := 0) fun d ⟨E, rs, new, e, h⟩ => by subst e; exact .pure ⟨_, rfl, E, rs, new, rfl, h⟩
  rintro ρ' ⟨E, rs, new, rfl, C, hr0, hr8, hn18⟩
  have hn := C.n
  have hr := C.r
  refine ho_nx [.no, .val .wel, .val (caseD E rs new), .val (.int new.length), .no, .no, .no, .no, .no, .no, .no, .no, .no] (by simp (disch := first | assumption | omega) [case_2]) ?_
  have hrl : rs.length ≤ line := by omega
  refine ho_nx [.no, .val .wel, .val (caseD E rs new), .val (.int new.length), .val (rowsD E new rs), .no, .no, .no, .no, .no, .no, .no, .no] ?_ ?_
  · simp [case_1, itemsD]
    rw [compL_map (r := fun r : Rl => D.lst (nD (runs E new r)))]
    · simp [hrl, rowsD]
    · intro r hr
      unfold cmpF
      simp [r_runs C r (C.o r hr)]
  refine ho_nx [.no, .val .wel, .val (caseD E rs new), .val (.int new.length), .val (rowsD E new rs), .no, .val (mostsD rs), .no, .no, .no, .no, .no, .no] ?_ ?_
  · simp [case_1, itemsD]
    rw [compL_map (r := fun r : Rl => D.int (r.most : Nat))]
    · simp [hrl, mostsD, nD]
      try rfl
    · intro r hr
      obtain ⟨L, e1, e2⟩ := r_mosts r
      unfold cmpF
      simp [e1, e2]
  refine ho_nx [.no, .val .wel, .val (caseD E rs new), .val (.int new.length), .val (rowsD E new rs), .no, .val (mostsD rs), .own (.lst []), .no, .no, .no, .no, .no] (by simp) ?_
  have Ct := C.top
  refine Ho.more WG.mono (n := (rs.length * 0) + (1 + (2 * 0 + (10 + 0)))) ?_ (by omega)
  refine ho_for WG.mono (ds := rs.map Rl.d) (N := rs.length) [.no, .val .wel, .val (caseD E rs new), .val (.int new.length), .val (rowsD E new rs), .no, .val (mostsD rs), .own (.lst []), .no, .no, .no, .no, .no] 0 (by simp) (by simp [case_1, itemsD]) (by simp [frz1])
    (fun i ρ => ∃ x, ρ = [.no, .val .wel, .val (caseD E rs new), .val (.int new.length), .val (rowsD E new rs), x, .val (mostsD rs), .own (.lst ((rs.take i).map fun r => (Rl.top r).d)), .no, .no, .no, .no, .no]) (fun _ => False) ⟨.no, by simp⟩ ?_ ?_
  · rintro i hi ρ ⟨x, rfl⟩
    have hi' : i < rs.length := by simpa using hi
    have hpl : ((rs.take i).map fun r => (Rl.top r).d).length < line := by simp; omega
    have e0 : ((rs.take (i + 1)).map fun r => (Rl.top r).d) = ((rs.take i).map fun r => (Rl.top r).d) ++ [(Rl.top rs[i]).d] := by
      rw [List.take_succ_eq_append_getElem hi', List.map_append]; rfl
    have key : forB (.nm 5) (.cons (.ife (.cmp .Eq (.sub (.var 5) (.con (.int 0))) (.con (.str "elder"))) (.cons (.app 7 (.bin .Add (.slc (.var 5) .no (.so (.con (.int 3)))) (.tup (.cons (.con (.int 300)) .nil)))) .nil) (.cons (.app 7 (.tup (.cons (.con (.str "back")) (.cons (.con (.int 300)) (.cons (.sub (.var 5) (.con (.int 2))) (.cons (.sub (.var 5) (.con (.int 3))) (.cons (.con (.int 300)) .nil))))))) .nil)) .nil) (rs.map Rl.d)[i] [.no, .val .wel, .val (caseD E rs new), .val (.int new.length), .val (rowsD E new rs), x, .val (mostsD rs), .own (.lst ((rs.take i).map fun r => (Rl.top r).d)), .no, .no, .no, .no, .no] = pure (.nx [.no, .val .wel, .val (caseD E rs new), .val (.int new.length), .val (rowsD E new rs), .val (rs[i]).d, .val (mostsD rs), .own (.lst ((rs.take (i + 1)).map fun r => (Rl.top r).d)), .no, .no, .no, .no, .no]) := by
      rw [e0]
      unfold forB
      simp only [List.getElem_map, bindT_nm, pure_bind, List.set_cons_succ, List.set_cons_zero]
      generalize (rs.take i).map (fun r => (Rl.top r).d) = pref at hpl ⊢
      generalize rowsD E new rs = dr
      generalize mostsD rs = dm
      generalize rs[i] = r
      cases r with
      | eld e t m =>
        have b1 : binD .Add (.tup [.str ("elder" : PySem.Str).cps.toList, .int e, .bl t]) (.tup [.int 300]) = pure (.tup [.str ("elder" : PySem.Str).cps.toList, .int e, .bl t, .int 300]) := bin_addT (by simp; omega)
        simp [Rl.d, at_0, cut5d, appD, hpl, Rl.top, Rl.wm, Rl.ww, l1, b1]
      | bak w a t m =>
        simp [Rl.d, at_0, at_2, at_3, nBE, appD, hpl, Rl.top, Rl.wm, Rl.ww, l1, l5]
    rw [key]
    exact .pure ⟨_, rfl⟩
  · rintro u (h | ⟨ρ', rfl, x, rfl⟩)
    · exact h.elim
    have e1 : (rs.take rs.length).map (fun r => (Rl.top r).d) = (rs.map Rl.top).map Rl.d := by simp
    rw [e1]
    have rw1 := r_widest C
    have rl1 := r_lost C
    have tm : mostsD (rs.map Rl.top) = .lst ((rs.map Rl.top).map fun _ => D.int 300) := by rw [top_most, List.map_map]; rfl
    have htl : (rs.map Rl.top).length = rs.length := by simp
    clear e1
    generalize rs.map Rl.top = ts at rw1 rl1 tm htl Ct ⊢
    show Ho WG _ (exSs _ _ >>= _) _
    have hcp : (caseD E ts new).pure = true := by
      show D.pureL [.tup (E.map D.str), .tup (ts.map Rl.d), .str new] = true
      have p1 : (D.tup (E.map D.str)).pure = true := pureL_map _ _ fun _ _ => rfl
      have p2 : (D.tup (ts.map Rl.d)).pure = true := pureL_map _ _ fun r _ => rule_pure r
      simp only [pureL_cons, p1, p2, pureL_nil]
      rfl
    refine ho_nx [.no, .val .wel, .val (caseD E rs new), .val (.int new.length), .val (rowsD E new rs), x, .val (mostsD rs), .own (.lst (ts.map Rl.d)), .val (caseD E ts new), .no, .no, .no, .no] ?_ ?_
    · have b1 : bltD .tuple [.lst (ts.map Rl.d)] = pure (.tup (ts.map Rl.d)) := rfl
      have b2 : D.tup [D.tup (E.map D.str), D.tup (ts.map Rl.d), D.str new] = caseD E ts new := rfl
      simp only [exS_set0, ev_tup, evs_cons, evs_nil, ev_sub, ev_var, ev_con, ev_blt, vget_0, vget_s, d_val, d_own, opt_some, pure_bind, conD_int, case_0, case_2, b1, bind_pure_comp, map_pure, List.length_cons, List.length_nil, Nat.zero_add, Nat.reduceAdd, grd_dec l3, b2, lif_pure, hcp]
      simp
    have aw := r_alike 6 _ (ok_case Ct)
    refine ho_nx [.no, .val .wel, .val (caseD E rs new), .val (.int new.length), .val (rowsD E new rs), x, .val (mostsD rs), .own (.lst (ts.map Rl.d)), .val (caseD E ts new), .no, .no, .no, .no] (by simp [rw1, aw]) ?_
    have lr := r_law_reach (E := E) (new := new) (rs := rs) hn hr
    have lk := r_looked C
    refine ho_nx [.no, .val .wel, .val (caseD E rs new), .val (.int new.length), .val (rowsD E new rs), x, .val (mostsD rs), .own (.lst (ts.map Rl.d)), .val (caseD E ts new), .no, .no, .no, .no] (by simp [lr, lk]) ?_
    refine ho_nx [.no, .val .wel, .val (caseD E rs new), .val (.int new.length), .val (rowsD E new rs), x, .val (mostsD rs), .val (.lst (ts.map Rl.d)), .val (caseD E ts new), .val (rowsD E new ts), .no, .no, .no] ?_ ?_
    · have hp : (rowsD E new ts).pure = false := rfl
      have e9 : compL (cmpF [.no, .val .wel, .val (caseD E rs new), .val (.int new.length), .val (rowsD E new rs), x, .val (mostsD rs), .own (.lst (ts.map Rl.d)), .val (caseD E ts new), .no, .no, .no, .no] (.nm 5) .no (.call "_law_runs" s__law_runs (.cons (.var 8) (.cons (.var 5) .nil))) [("rule", 5)]) (ts.map Rl.d) = pure (ts.map fun r => D.lst (nD (runs E new r))) := by
        rw [compL_map (r := fun r : Rl => D.lst (nD (runs E new r)))]
        intro r hr
        unfold cmpF
        simp [r_runs Ct r (Ct.o r hr)]
      have hrl2 : ts.length ≤ line := by omega
      simp [itemsD, hp, e9, hrl2]
      show pure _ = pure _
      rfl
    refine ho_nx [.no, .val .wel, .val (caseD E rs new), .val (.int new.length), .val (rowsD E new rs), x, .val (mostsD rs), .val (.lst (ts.map Rl.d)), .val (caseD E ts new), .val (rowsD E new ts), .val (mostsD ts), .no, .no] ?_ ?_
    · have hp : (mostsD ts).pure = false := rfl
      have hrl2 : ts.length ≤ line := by omega
      simp [itemsD]
      rw [compL_map (r := fun _ : Rl => D.int 300)]
      · simp [hrl2, tm]
      · intro r hr
        unfold cmpF
        simp
    have lr2 := r_law_reach (E := E) (new := new) (rs := ts) hn (by omega)
    have lk2 := r_looked Ct
    refine ho_nx [.no, .val .wel, .val (caseD E rs new), .val (.int new.length), .val (rowsD E new rs), x, .val (mostsD rs), .val (.lst (ts.map Rl.d)), .val (caseD E ts new), .val (rowsD E new ts), .val (mostsD ts), .no, .no] (by simp [lr2, lk2]) ?_
    have lp1 := r_law_pieces (E := E) (new := new) (rs := rs) hn hr
    have lp2 := r_law_pieces (E := E) (new := new) (rs := ts) hn (by omega)
    have a7 := r_alike 6 (.int ((pc E rs new : Int) - pc E ts new)) trivial
    refine ho_nx [.no, .val .wel, .val (caseD E rs new), .val (.int new.length), .val (rowsD E new rs), x, .val (mostsD rs), .val (.lst (ts.map Rl.d)), .val (caseD E ts new), .val (rowsD E new ts), .val (mostsD ts), .no, .no] (by simp [lp1, lp2, rl1, a7]) ?_
    refine ho_set (fun d => ∃ f : Nat, d = .int f ∧ f < rs.length) ?_ (by rfl) ?_
    · simp [case_1]
      exact h_pick rs.length hr0 (by omega)
    rintro d ⟨f, rfl, hf⟩
    obtain ⟨N, hN, hN2⟩ : ∃ N : Nat, (if (rs.length : Int) < 2 - (if (12 : Int) < (new.length : Int) then 1 else 0) then (rs.length : Int) else 2 - (if (12 : Int) < (new.length : Int) then 1 else 0)) = N ∧ N ≤ 2 := by
      by_cases z : (12 : Int) < new.length
      · rw [if_pos z]
        by_cases y : (rs.length : Int) < 2 - 1
        · rw [if_pos y]; exact ⟨rs.length, rfl, by omega⟩
        · rw [if_neg y]; exact ⟨1, rfl, by omega⟩
      · rw [if_neg z]
        by_cases y : (rs.length : Int) < 2 - 0
        · rw [if_pos y]; exact ⟨rs.length, rfl, by omega⟩
        · rw [if_neg y]; exact ⟨2, rfl, by omega⟩
    refine Ho.more WG.mono (n := N * 0 + (10 + 0)) ?_ (by omega)
    refine ho_for WG.mono (ds := (List.range N).map fun j : Nat => D.int j) (N := N) [.no, .val .wel, .val (caseD E rs new), .val (.int new.length), .val (rowsD E new rs), x, .val (mostsD rs), .val (.lst (ts.map Rl.d)), .val (caseD E ts new), .val (rowsD E new ts), .val (mostsD ts), .val (.int f), .no] 0 (by simp) ?_ rfl
      (fun i ρ => ∃ y, ρ = [.no, .val .wel, .val (caseD E rs new), .val (.int new.length), .val (rowsD E new rs), x, .val (mostsD rs), .val (.lst (ts.map Rl.d)), .val (caseD E ts new), .val (rowsD E new ts), .val (mostsD ts), .val (.int f), y]) (fun _ => False) ⟨.no, rfl⟩ ?_ ?_
    · have := rng_nat (n := N) (by omega)
      simp [case_1]
      rw [hN]
      exact this
    · rintro i hi ρ ⟨y, rfl⟩
      simp only [List.length_map, List.length_range] at hi
      have hq : (f + i) % rs.length < rs.length := Nat.mod_lt _ hr0
      have ra := r_rule_asked C ((f + i) % rs.length) hq
      have em : (((f : Int) + i) % rs.length) = (((f + i) % rs.length : Nat) : Int) := by simp
      have hr0' : (0 : Int) < rs.length := by omega
      generalize (f + i) % rs.length = q at *
      unfold forB
      simp only [List.getElem_map, List.getElem_range, bindT_nm, pure_bind, List.set_cons_succ, List.set_cons_zero]
      simp (disch := first | assumption | omega) [case_1, em, ra]
      exact .pure ⟨_, rfl⟩
    · rintro u (h | ⟨ρ', rfl, y, rfl⟩)
      · exact h.elim
      show Ho WG _ (exSs _ _ >>= _) _
      refine ho_ret (fun d => d = .bl true) ?_ (fun d h => by subst h; exact .pure rfl)
      simp
      exact (r_strange C).lif (n' := 0) fun d e => .pure (by rw [e])
theorem law_true : lawTrue := fun cells stir ne => by
  obtain ⟨u, g', e, _, h⟩ := h_law [cells, [0], [stir]] 0 ⟨cells, 0, stir, rfl, ne, by omega, by decide⟩
  subst h
  exact ⟨g', e⟩
end K86
set_option Elab.async false
set_option linter.all false
set_option maxRecDepth 100000
set_option maxHeartbeats 4000000
namespace K86
open PySem PySem.Spec PyProof.Rows L2 TI
theorem cx_false {P : Program} {w : World} {H : Hp} {s s' : Shared} {e : Value} (h : L2.CX P w [] H s (fun _ _ _ => False) e s') : False := by
  obtain ⟨_, _, _, _, _, _, _, _, _, _, _, _, h⟩ := h
  exact h
theorem all_mk (L : lawTrue) {l : PySem.W.OpenLaw} {w : World} {K : PySem.W.Frag} {h : Heap} {mg : Str → Option Value} {fa : Addr} (X : K.In h) (G : h.Ns mainGlobals mg) (hfa : mg "law" = some (.ref fa))
    {f0 : Addr} {od0 an0 : Option Addr} {sl0 : Array (Option Value)} {oc0 kV0 dc0 pm0 cd0 ct0 : Value}
    {f1 : Addr} {od1 an1 : Option Addr} {sl1 : Array (Option Value)} {oc1 kV1 dc1 pm1 cd1 ct1 : Value}
    {f2 : Addr} {od2 an2 : Option Addr} {sl2 : Array (Option Value)} {oc2 kV2 dc2 pm2 cd2 ct2 : Value}
    {f3 : Addr} {od3 an3 : Option Addr} {sl3 : Array (Option Value)} {oc3 kV3 dc3 pm3 cd3 ct3 : Value}
    {f4 : Addr} {od4 an4 : Option Addr} {sl4 : Array (Option Value)} {oc4 kV4 dc4 pm4 cd4 ct4 : Value}
    {f5 : Addr} {od5 an5 : Option Addr} {sl5 : Array (Option Value)} {oc5 kV5 dc5 pm5 cd5 ct5 : Value}
    {f6 : Addr} {od6 an6 : Option Addr} {sl6 : Array (Option Value)} {oc6 kV6 dc6 pm6 cd6 ct6 : Value}
    {f7 : Addr} {od7 an7 : Option Addr} {sl7 : Array (Option Value)} {oc7 kV7 dc7 pm7 cd7 ct7 : Value}
    {f8 : Addr} {od8 an8 : Option Addr} {sl8 : Array (Option Value)} {oc8 kV8 dc8 pm8 cd8 ct8 : Value}
    {f9 : Addr} {od9 an9 : Option Addr} {sl9 : Array (Option Value)} {oc9 kV9 dc9 pm9 cd9 ct9 : Value}
    {f10 : Addr} {od10 an10 : Option Addr} {sl10 : Array (Option Value)} {oc10 kV10 dc10 pm10 cd10 ct10 : Value}
    {f11 : Addr} {od11 an11 : Option Addr} {sl11 : Array (Option Value)} {oc11 kV11 dc11 pm11 cd11 ct11 : Value}
    {f12 : Addr} {od12 an12 : Option Addr} {sl12 : Array (Option Value)} {oc12 kV12 dc12 pm12 cd12 ct12 : Value}
    {f13 : Addr} {od13 an13 : Option Addr} {sl13 : Array (Option Value)} {oc13 kV13 dc13 pm13 cd13 ct13 : Value}
    {f14 : Addr} {od14 an14 : Option Addr} {sl14 : Array (Option Value)} {oc14 kV14 dc14 pm14 cd14 ct14 : Value}
    {f15 : Addr} {od15 an15 : Option Addr} {sl15 : Array (Option Value)} {oc15 kV15 dc15 pm15 cd15 ct15 : Value}
    {f16 : Addr} {od16 an16 : Option Addr} {sl16 : Array (Option Value)} {oc16 kV16 dc16 pm16 cd16 ct16 : Value}
    {f17 : Addr} {od17 an17 : Option Addr} {sl17 : Array (Option Value)} {oc17 kV17 dc17 pm17 cd17 ct17 : Value}
    {f18 : Addr} {od18 an18 : Option Addr} {sl18 : Array (Option Value)} {oc18 kV18 dc18 pm18 cd18 ct18 : Value}
    {f19 : Addr} {od19 an19 : Option Addr} {sl19 : Array (Option Value)} {oc19 kV19 dc19 pm19 cd19 ct19 : Value}
    {f20 : Addr} {od20 an20 : Option Addr} {sl20 : Array (Option Value)} {oc20 kV20 dc20 pm20 cd20 ct20 : Value}
    {f21 : Addr} {od21 an21 : Option Addr} {sl21 : Array (Option Value)} {oc21 kV21 dc21 pm21 cd21 ct21 : Value}
    {f22 : Addr} {od22 an22 : Option Addr} {sl22 : Array (Option Value)} {oc22 kV22 dc22 pm22 cd22 ct22 : Value}
    {f23 : Addr} {od23 an23 : Option Addr} {sl23 : Array (Option Value)} {oc23 kV23 dc23 pm23 cd23 ct23 : Value}
    {f24 : Addr} {od24 an24 : Option Addr} {sl24 : Array (Option Value)} {oc24 kV24 dc24 pm24 cd24 ct24 : Value}
    {f25 : Addr} {od25 an25 : Option Addr} {sl25 : Array (Option Value)} {oc25 kV25 dc25 pm25 cd25 ct25 : Value}
    {f26 : Addr} {od26 an26 : Option Addr} {sl26 : Array (Option Value)} {oc26 kV26 dc26 pm26 cd26 ct26 : Value}
    {f27 : Addr} {od27 an27 : Option Addr} {sl27 : Array (Option Value)} {oc27 kV27 dc27 pm27 cd27 ct27 : Value}
    {f28 : Addr} {od28 an28 : Option Addr} {sl28 : Array (Option Value)} {oc28 kV28 dc28 pm28 cd28 ct28 : Value}
    {f29 : Addr} {od29 an29 : Option Addr} {sl29 : Array (Option Value)} {oc29 kV29 dc29 pm29 cd29 ct29 : Value}
    {f30 : Addr} {od30 an30 : Option Addr} {sl30 : Array (Option Value)} {oc30 kV30 dc30 pm30 cd30 ct30 : Value}
    {f31 : Addr} {od31 an31 : Option Addr} {sl31 : Array (Option Value)} {oc31 kV31 dc31 pm31 cd31 ct31 : Value}
    {f32 : Addr} {od32 an32 : Option Addr} {sl32 : Array (Option Value)} {oc32 kV32 dc32 pm32 cd32 ct32 : Value}
    {f33 : Addr} {od33 an33 : Option Addr} {sl33 : Array (Option Value)} {oc33 kV33 dc33 pm33 cd33 ct33 : Value}
    {f34 : Addr} {od34 an34 : Option Addr} {sl34 : Array (Option Value)} {oc34 kV34 dc34 pm34 cd34 ct34 : Value}
    {f35 : Addr} {od35 an35 : Option Addr} {sl35 : Array (Option Value)} {oc35 kV35 dc35 pm35 cd35 ct35 : Value}
    {f36 : Addr} {od36 an36 : Option Addr} {sl36 : Array (Option Value)} {oc36 kV36 dc36 pm36 cd36 ct36 : Value}
    {gt0 : Tok}
    {E0 : Addr}
    {E1 : Addr}
    {E2 : Addr}
    {E3 : Addr}
    {E4 : Addr}
    {E5 : Addr}
    {nm4 q4 : Str} {N4 : Addr} {bs4 bm4 : List Value} {sn4 : List Str} {sub4 : List Value} {ab4 : Bool} {col4 : Option Bool} {dd4 : Option Addr} {m04 m14 m24 m34 m54 : Option Value}
    {fe4 : Addr} {ode4 ane4 : Option Addr} {sle4 : Array (Option Value)} {oce4 kVe4 dce4 pme4 cde4 cte4 : Value}
    (a0 : PySem.W.nsIn K mainGlobals "is_number" = some (some (.ref f0)))
    (l0 : K.lookup f0 = some ⟨oc0, od0, .func (PySem.W.fnOf "is_number" "is_number" (defArgs (topS 8)) (defBody (topS 8)) (defScope (topS 8)) .none kV0 dc0 pm0 an0 cd0 ct0), sl0⟩)
    (c0 : PySem.W.codeIn K cd0 "is_number" = true)
    (k0 : PySem.W.keepIn K (.ref f0) = true)
    (a1 : PySem.W.nsIn K mainGlobals "check_stretch" = some (some (.ref f1)))
    (l1 : K.lookup f1 = some ⟨oc1, od1, .func (PySem.W.fnOf "check_stretch" "check_stretch" (defArgs (topS 9)) (defBody (topS 9)) (defScope (topS 9)) .none kV1 dc1 pm1 an1 cd1 ct1), sl1⟩)
    (c1 : PySem.W.codeIn K cd1 "check_stretch" = true)
    (k1 : PySem.W.keepIn K (.ref f1) = true)
    (a2 : PySem.W.nsIn K mainGlobals "is_turning" = some (some (.ref f2)))
    (l2 : K.lookup f2 = some ⟨oc2, od2, .func (PySem.W.fnOf "is_turning" "is_turning" (defArgs (topS 12)) (defBody (topS 12)) (defScope (topS 12)) .none kV2 dc2 pm2 an2 cd2 ct2), sl2⟩)
    (c2 : PySem.W.codeIn K cd2 "is_turning" = true)
    (k2 : PySem.W.keepIn K (.ref f2) = true)
    (a3 : PySem.W.nsIn K mainGlobals "_heard_by" = some (some (.ref f3)))
    (l3 : K.lookup f3 = some ⟨oc3, od3, .func (PySem.W.fnOf "_heard_by" "_heard_by" (defArgs (topS 14)) (defBody (topS 14)) (defScope (topS 14)) .none kV3 dc3 pm3 an3 cd3 ct3), sl3⟩)
    (c3 : PySem.W.codeIn K cd3 "_heard_by" = true)
    (k3 : PySem.W.keepIn K (.ref f3) = true)
    (a4 : PySem.W.nsIn K mainGlobals "is_heard" = some (some (.ref f4)))
    (l4 : K.lookup f4 = some ⟨oc4, od4, .func (PySem.W.fnOf "is_heard" "is_heard" (defArgs (topS 15)) (defBody (topS 15)) (defScope (topS 15)) .none kV4 dc4 pm4 an4 cd4 ct4), sl4⟩)
    (c4 : PySem.W.codeIn K cd4 "is_heard" = true)
    (k4 : PySem.W.keepIn K (.ref f4) = true)
    (a5 : PySem.W.nsIn K mainGlobals "reach_table" = some (some (.ref f5)))
    (l5 : K.lookup f5 = some ⟨oc5, od5, .func (PySem.W.fnOf "reach_table" "reach_table" (defArgs (topS 16)) (defBody (topS 16)) (defScope (topS 16)) .none kV5 dc5 pm5 an5 cd5 ct5), sl5⟩)
    (c5 : PySem.W.codeIn K cd5 "reach_table" = true)
    (k5 : PySem.W.keepIn K (.ref f5) = true)
    (a6 : PySem.W.nsIn K mainGlobals "greedy_cuts" = some (some (.ref f6)))
    (l6 : K.lookup f6 = some ⟨oc6, od6, .func (PySem.W.fnOf "greedy_cuts" "greedy_cuts" (defArgs (topS 18)) (defBody (topS 18)) (defScope (topS 18)) .none kV6 dc6 pm6 an6 cd6 ct6), sl6⟩)
    (c6 : PySem.W.codeIn K cd6 "greedy_cuts" = true)
    (k6 : PySem.W.keepIn K (.ref f6) = true)
    (a7 : PySem.W.nsIn K mainGlobals "fewest_count" = some (some (.ref f7)))
    (l7 : K.lookup f7 = some ⟨oc7, od7, .func (PySem.W.fnOf "fewest_count" "fewest_count" (defArgs (topS 19)) (defBody (topS 19)) (defScope (topS 19)) .none kV7 dc7 pm7 an7 cd7 ct7), sl7⟩)
    (c7 : PySem.W.codeIn K cd7 "fewest_count" = true)
    (k7 : PySem.W.keepIn K (.ref f7) = true)
    (a8 : PySem.W.nsIn K mainGlobals "piece_count" = some (some (.ref f8)))
    (l8 : K.lookup f8 = some ⟨oc8, od8, .func (PySem.W.fnOf "piece_count" "piece_count" (defArgs (topS 20)) (defBody (topS 20)) (defScope (topS 20)) .none kV8 dc8 pm8 an8 cd8 ct8), sl8⟩)
    (c8 : PySem.W.codeIn K cd8 "piece_count" = true)
    (k8 : PySem.W.keepIn K (.ref f8) = true)
    (a9 : PySem.W.nsIn K mainGlobals "_with" = some (some (.ref f9)))
    (l9 : K.lookup f9 = some ⟨oc9, od9, .func (PySem.W.fnOf "_with" "_with" (defArgs (topS 22)) (defBody (topS 22)) (defScope (topS 22)) .none kV9 dc9 pm9 an9 cd9 ct9), sl9⟩)
    (c9 : PySem.W.codeIn K cd9 "_with" = true)
    (k9 : PySem.W.keepIn K (.ref f9) = true)
    (a10 : PySem.W.nsIn K mainGlobals "_check_rule" = some (some (.ref f10)))
    (l10 : K.lookup f10 = some ⟨oc10, od10, .func (PySem.W.fnOf "_check_rule" "_check_rule" (defArgs (topS 23)) (defBody (topS 23)) (defScope (topS 23)) .none kV10 dc10 pm10 an10 cd10 ct10), sl10⟩)
    (c10 : PySem.W.codeIn K cd10 "_check_rule" = true)
    (k10 : PySem.W.keepIn K (.ref f10) = true)
    (a11 : PySem.W.nsIn K mainGlobals "pieces_by_most" = some (some (.ref f11)))
    (l11 : K.lookup f11 = some ⟨oc11, od11, .func (PySem.W.fnOf "pieces_by_most" "pieces_by_most" (defArgs (topS 24)) (defBody (topS 24)) (defScope (topS 24)) .none kV11 dc11 pm11 an11 cd11 ct11), sl11⟩)
    (c11 : PySem.W.codeIn K cd11 "pieces_by_most" = true)
    (k11 : PySem.W.keepIn K (.ref f11) = true)
    (a12 : PySem.W.nsIn K mainGlobals "pieces_by_wide" = some (some (.ref f12)))
    (l12 : K.lookup f12 = some ⟨oc12, od12, .func (PySem.W.fnOf "pieces_by_wide" "pieces_by_wide" (defArgs (topS 25)) (defBody (topS 25)) (defScope (topS 25)) .none kV12 dc12 pm12 an12 cd12 ct12), sl12⟩)
    (c12 : PySem.W.codeIn K cd12 "pieces_by_wide" = true)
    (k12 : PySem.W.keepIn K (.ref f12) = true)
    (a13 : PySem.W.nsIn K mainGlobals "least_most" = some (some (.ref f13)))
    (l13 : K.lookup f13 = some ⟨oc13, od13, .func (PySem.W.fnOf "least_most" "least_most" (defArgs (topS 26)) (defBody (topS 26)) (defScope (topS 26)) .none kV13 dc13 pm13 an13 cd13 ct13), sl13⟩)
    (c13 : PySem.W.codeIn K cd13 "least_most" = true)
    (k13 : PySem.W.keepIn K (.ref f13) = true)
    (a14 : PySem.W.nsIn K mainGlobals "least_wide" = some (some (.ref f14)))
    (l14 : K.lookup f14 = some ⟨oc14, od14, .func (PySem.W.fnOf "least_wide" "least_wide" (defArgs (topS 27)) (defBody (topS 27)) (defScope (topS 27)) .none kV14 dc14 pm14 an14 cd14 ct14), sl14⟩)
    (c14 : PySem.W.codeIn K cd14 "least_wide" = true)
    (k14 : PySem.W.keepIn K (.ref f14) = true)
    (a15 : PySem.W.nsIn K mainGlobals "widest_case" = some (some (.ref f15)))
    (l15 : K.lookup f15 = some ⟨oc15, od15, .func (PySem.W.fnOf "widest_case" "widest_case" (defArgs (topS 28)) (defBody (topS 28)) (defScope (topS 28)) .none kV15 dc15 pm15 an15 cd15 ct15), sl15⟩)
    (c15 : PySem.W.codeIn K cd15 "widest_case" = true)
    (k15 : PySem.W.keepIn K (.ref f15) = true)
    (a16 : PySem.W.nsIn K mainGlobals "lost_by_bounds" = some (some (.ref f16)))
    (l16 : K.lookup f16 = some ⟨oc16, od16, .func (PySem.W.fnOf "lost_by_bounds" "lost_by_bounds" (defArgs (topS 29)) (defBody (topS 29)) (defScope (topS 29)) .none kV16 dc16 pm16 an16 cd16 ct16), sl16⟩)
    (c16 : PySem.W.codeIn K cd16 "lost_by_bounds" = true)
    (k16 : PySem.W.keepIn K (.ref f16) = true)
    (a17 : PySem.W.nsIn K mainGlobals "_law_well" = some (some (.ref f17)))
    (l17 : K.lookup f17 = some ⟨oc17, od17, .func (PySem.W.fnOf "_law_well" "_law_well" (defArgs (topS 31)) (defBody (topS 31)) (defScope (topS 31)) .none kV17 dc17 pm17 an17 cd17 ct17), sl17⟩)
    (c17 : PySem.W.codeIn K cd17 "_law_well" = true)
    (k17 : PySem.W.keepIn K (.ref f17) = true)
    (a18 : PySem.W.nsIn K mainGlobals "_law_pick" = some (some (.ref f18)))
    (l18 : K.lookup f18 = some ⟨oc18, od18, .func (PySem.W.fnOf "_law_pick" "_law_pick" (defArgs (topS 32)) (defBody (topS 32)) (defScope (topS 32)) .none kV18 dc18 pm18 an18 cd18 ct18), sl18⟩)
    (c18 : PySem.W.codeIn K cd18 "_law_pick" = true)
    (k18 : PySem.W.keepIn K (.ref f18) = true)
    (a19 : PySem.W.nsIn K mainGlobals "_law_alike" = some (some (.ref f19)))
    (l19 : K.lookup f19 = some ⟨oc19, od19, .func (PySem.W.fnOf "_law_alike" "_law_alike" (defArgs (topS 33)) (defBody (topS 33)) (defScope (topS 33)) .none kV19 dc19 pm19 an19 cd19 ct19), sl19⟩)
    (c19 : PySem.W.codeIn K cd19 "_law_alike" = true)
    (k19 : PySem.W.keepIn K (.ref f19) = true)
    (a20 : PySem.W.nsIn K mainGlobals "_law_signs" = some (some (.ref f20)))
    (l20 : K.lookup f20 = some ⟨oc20, od20, .func (PySem.W.fnOf "_law_signs" "_law_signs" (defArgs (topS 34)) (defBody (topS 34)) (defScope (topS 34)) .none kV20 dc20 pm20 an20 cd20 ct20), sl20⟩)
    (c20 : PySem.W.codeIn K cd20 "_law_signs" = true)
    (k20 : PySem.W.keepIn K (.ref f20) = true)
    (a21 : PySem.W.nsIn K mainGlobals "_law_text" = some (some (.ref f21)))
    (l21 : K.lookup f21 = some ⟨oc21, od21, .func (PySem.W.fnOf "_law_text" "_law_text" (defArgs (topS 35)) (defBody (topS 35)) (defScope (topS 35)) .none kV21 dc21 pm21 an21 cd21 ct21), sl21⟩)
    (c21 : PySem.W.codeIn K cd21 "_law_text" = true)
    (k21 : PySem.W.keepIn K (.ref f21) = true)
    (a22 : PySem.W.nsIn K mainGlobals "_law_plain_run" = some (some (.ref f22)))
    (l22 : K.lookup f22 = some ⟨oc22, od22, .func (PySem.W.fnOf "_law_plain_run" "_law_plain_run" (defArgs (topS 36)) (defBody (topS 36)) (defScope (topS 36)) .none kV22 dc22 pm22 an22 cd22 ct22), sl22⟩)
    (c22 : PySem.W.codeIn K cd22 "_law_plain_run" = true)
    (k22 : PySem.W.keepIn K (.ref f22) = true)
    (a23 : PySem.W.nsIn K mainGlobals "_law_turned_run" = some (some (.ref f23)))
    (l23 : K.lookup f23 = some ⟨oc23, od23, .func (PySem.W.fnOf "_law_turned_run" "_law_turned_run" (defArgs (topS 37)) (defBody (topS 37)) (defScope (topS 37)) .none kV23 dc23 pm23 an23 cd23 ct23), sl23⟩)
    (c23 : PySem.W.codeIn K cd23 "_law_turned_run" = true)
    (k23 : PySem.W.keepIn K (.ref f23) = true)
    (a24 : PySem.W.nsIn K mainGlobals "_law_runs" = some (some (.ref f24)))
    (l24 : K.lookup f24 = some ⟨oc24, od24, .func (PySem.W.fnOf "_law_runs" "_law_runs" (defArgs (topS 38)) (defBody (topS 38)) (defScope (topS 38)) .none kV24 dc24 pm24 an24 cd24 ct24), sl24⟩)
    (c24 : PySem.W.codeIn K cd24 "_law_runs" = true)
    (k24 : PySem.W.keepIn K (.ref f24) = true)
    (a25 : PySem.W.nsIn K mainGlobals "_law_reach" = some (some (.ref f25)))
    (l25 : K.lookup f25 = some ⟨oc25, od25, .func (PySem.W.fnOf "_law_reach" "_law_reach" (defArgs (topS 39)) (defBody (topS 39)) (defScope (topS 39)) .none kV25 dc25 pm25 an25 cd25 ct25), sl25⟩)
    (c25 : PySem.W.codeIn K cd25 "_law_reach" = true)
    (k25 : PySem.W.keepIn K (.ref f25) = true)
    (a26 : PySem.W.nsIn K mainGlobals "_law_cuts" = some (some (.ref f26)))
    (l26 : K.lookup f26 = some ⟨oc26, od26, .func (PySem.W.fnOf "_law_cuts" "_law_cuts" (defArgs (topS 40)) (defBody (topS 40)) (defScope (topS 40)) .none kV26 dc26 pm26 an26 cd26 ct26), sl26⟩)
    (c26 : PySem.W.codeIn K cd26 "_law_cuts" = true)
    (k26 : PySem.W.keepIn K (.ref f26) = true)
    (a27 : PySem.W.nsIn K mainGlobals "_law_pieces" = some (some (.ref f27)))
    (l27 : K.lookup f27 = some ⟨oc27, od27, .func (PySem.W.fnOf "_law_pieces" "_law_pieces" (defArgs (topS 41)) (defBody (topS 41)) (defScope (topS 41)) .none kV27 dc27 pm27 an27 cd27 ct27), sl27⟩)
    (c27 : PySem.W.codeIn K cd27 "_law_pieces" = true)
    (k27 : PySem.W.keepIn K (.ref f27) = true)
    (a28 : PySem.W.nsIn K mainGlobals "_law_part" = some (some (.ref f28)))
    (l28 : K.lookup f28 = some ⟨oc28, od28, .func (PySem.W.fnOf "_law_part" "_law_part" (defArgs (topS 42)) (defBody (topS 42)) (defScope (topS 42)) .none kV28 dc28 pm28 an28 cd28 ct28), sl28⟩)
    (c28 : PySem.W.codeIn K cd28 "_law_part" = true)
    (k28 : PySem.W.keepIn K (.ref f28) = true)
    (a29 : PySem.W.nsIn K mainGlobals "_law_rule" = some (some (.ref f29)))
    (l29 : K.lookup f29 = some ⟨oc29, od29, .func (PySem.W.fnOf "_law_rule" "_law_rule" (defArgs (topS 43)) (defBody (topS 43)) (defScope (topS 43)) .none kV29 dc29 pm29 an29 cd29 ct29), sl29⟩)
    (c29 : PySem.W.codeIn K cd29 "_law_rule" = true)
    (k29 : PySem.W.keepIn K (.ref f29) = true)
    (a30 : PySem.W.nsIn K mainGlobals "_law_case" = some (some (.ref f30)))
    (l30 : K.lookup f30 = some ⟨oc30, od30, .func (PySem.W.fnOf "_law_case" "_law_case" (defArgs (topS 44)) (defBody (topS 44)) (defScope (topS 44)) .none kV30 dc30 pm30 an30 cd30 ct30), sl30⟩)
    (c30 : PySem.W.codeIn K cd30 "_law_case" = true)
    (k30 : PySem.W.keepIn K (.ref f30) = true)
    (a31 : PySem.W.nsIn K mainGlobals "_law_with" = some (some (.ref f31)))
    (l31 : K.lookup f31 = some ⟨oc31, od31, .func (PySem.W.fnOf "_law_with" "_law_with" (defArgs (topS 45)) (defBody (topS 45)) (defScope (topS 45)) .none kV31 dc31 pm31 an31 cd31 ct31), sl31⟩)
    (c31 : PySem.W.codeIn K cd31 "_law_with" = true)
    (k31 : PySem.W.keepIn K (.ref f31) = true)
    (a32 : PySem.W.nsIn K mainGlobals "_law_refused" = some (some (.ref f32)))
    (l32 : K.lookup f32 = some ⟨oc32, od32, .func (PySem.W.fnOf "_law_refused" "_law_refused" (defArgs (topS 46)) (defBody (topS 46)) (defScope (topS 46)) .none kV32 dc32 pm32 an32 cd32 ct32), sl32⟩)
    (c32 : PySem.W.codeIn K cd32 "_law_refused" = true)
    (k32 : PySem.W.keepIn K (.ref f32) = true)
    (a33 : PySem.W.nsIn K mainGlobals "_law_rule_asked" = some (some (.ref f33)))
    (l33 : K.lookup f33 = some ⟨oc33, od33, .func (PySem.W.fnOf "_law_rule_asked" "_law_rule_asked" (defArgs (topS 47)) (defBody (topS 47)) (defScope (topS 47)) .none kV33 dc33 pm33 an33 cd33 ct33), sl33⟩)
    (c33 : PySem.W.codeIn K cd33 "_law_rule_asked" = true)
    (k33 : PySem.W.keepIn K (.ref f33) = true)
    (a34 : PySem.W.nsIn K mainGlobals "_law_strange_asked" = some (some (.ref f34)))
    (l34 : K.lookup f34 = some ⟨oc34, od34, .func (PySem.W.fnOf "_law_strange_asked" "_law_strange_asked" (defArgs (topS 48)) (defBody (topS 48)) (defScope (topS 48)) .none kV34 dc34 pm34 an34 cd34 ct34), sl34⟩)
    (c34 : PySem.W.codeIn K cd34 "_law_strange_asked" = true)
    (k34 : PySem.W.keepIn K (.ref f34) = true)
    (a35 : PySem.W.nsIn K mainGlobals "_law_looked" = some (some (.ref f35)))
    (l35 : K.lookup f35 = some ⟨oc35, od35, .func (PySem.W.fnOf "_law_looked" "_law_looked" (defArgs (topS 49)) (defBody (topS 49)) (defScope (topS 49)) .none kV35 dc35 pm35 an35 cd35 ct35), sl35⟩)
    (c35 : PySem.W.codeIn K cd35 "_law_looked" = true)
    (k35 : PySem.W.keepIn K (.ref f35) = true)
    (a36 : PySem.W.nsIn K mainGlobals "law" = some (some (.ref f36)))
    (l36 : K.lookup f36 = some ⟨oc36, od36, .func (PySem.W.fnOf "law" "law" (defArgs (topS 50)) (defBody (topS 50)) (defScope (topS 50)) .none kV36 dc36 pm36 an36 cd36 ct36), sl36⟩)
    (c36 : PySem.W.codeIn K cd36 "law" = true)
    (k36 : PySem.W.keepIn K (.ref f36) = true)
    (z0 : PySem.W.nsIn K mainGlobals "len" = some none)
    (z1 : PySem.W.nsIn K mainGlobals "sum" = some none)
    (z2 : PySem.W.nsIn K mainGlobals "max" = some none)
    (z3 : PySem.W.nsIn K mainGlobals "min" = some none)
    (z4 : PySem.W.nsIn K mainGlobals "abs" = some none)
    (z5 : PySem.W.nsIn K mainGlobals "int" = some none)
    (z6 : PySem.W.nsIn K mainGlobals "tuple" = some none)
    (z7 : PySem.W.nsIn K mainGlobals "list" = some none)
    (z8 : PySem.W.nsIn K mainGlobals "any" = some none)
    (z9 : PySem.W.nsIn K mainGlobals "all" = some none)
    (z10 : PySem.W.nsIn K mainGlobals "ord" = some none)
    (z11 : PySem.W.nsIn K mainGlobals "sorted" = some none)
    (z12 : PySem.W.nsIn K mainGlobals "bool" = some none)
    (z13 : PySem.W.nsIn K mainGlobals "str" = some none)
    (z14 : PySem.W.nsIn K mainGlobals "isinstance" = some none)
    (z15 : PySem.W.nsIn K mainGlobals "range" = some none)
    (z16 : PySem.W.nsIn K mainGlobals "enumerate" = some none)
    (z17 : PySem.W.nsIn K mainGlobals "zip" = some none)
    (z18 : PySem.W.nsIn K mainGlobals "reversed" = some none)
    (gb0 : PySem.W.nsIn K mainGlobals "MOST_WIDE" = some (some (.int 300 gt0)))
    (e0 : PySem.W.nsIn K mainGlobals "SaidError" = some (some (.ref E0)))
    (d0_c : PySem.W.isClsIn K E0 = true)
    (d0_t : PySem.W.typeIn K (.ref E0) = some (.type "type"))
    (d0_b : PySem.W.subIn K (.ref E0) (.type "BaseException") = some true)
    (e1 : PySem.W.nsIn K mainGlobals "DataError" = some (some (.ref E1)))
    (d1_c : PySem.W.isClsIn K E1 = true)
    (d1_t : PySem.W.typeIn K (.ref E1) = some (.type "type"))
    (d1_b : PySem.W.subIn K (.ref E1) (.type "BaseException") = some true)
    (e2 : PySem.W.nsIn K mainGlobals "CallError" = some (some (.ref E2)))
    (d2_c : PySem.W.isClsIn K E2 = true)
    (d2_t : PySem.W.typeIn K (.ref E2) = some (.type "type"))
    (d2_b : PySem.W.subIn K (.ref E2) (.type "BaseException") = some true)
    (e3 : PySem.W.nsIn K mainGlobals "TextError" = some (some (.ref E3)))
    (d3_c : PySem.W.isClsIn K E3 = true)
    (d3_t : PySem.W.typeIn K (.ref E3) = some (.type "type"))
    (d3_b : PySem.W.subIn K (.ref E3) (.type "BaseException") = some true)
    (e4 : PySem.W.nsIn K mainGlobals "NoSuch" = some (some (.ref E4)))
    (d4_c : PySem.W.isClsIn K E4 = true)
    (d4_t : PySem.W.typeIn K (.ref E4) = some (.type "type"))
    (d4_b : PySem.W.subIn K (.ref E4) (.type "BaseException") = some true)
    (e5 : PySem.W.nsIn K mainGlobals "AskError" = some (some (.ref E5)))
    (d5_c : PySem.W.isClsIn K E5 = true)
    (d5_t : PySem.W.typeIn K (.ref E5) = some (.type "type"))
    (d5_b : PySem.W.subIn K (.ref E5) (.type "BaseException") = some true)
    (x4_xL : K.lookup E4 = some (excClassObj nm4 q4 E4 N4 bs4 bm4 true sn4 sub4 ab4 col4 dd4 m04 m14 m24 m34 m54 "ValueError.__new__"))
    (x4_xB : PySem.HandSPX.refsVE bm4 = true)
    (x4_sa : PySem.W.findIn K (.ref E4) "__setattr__" = some (some (.builtin "object.__setattr__")))
    (x4_ga : PySem.W.findIn K (.ref E4) "__getattribute__" = some (some (.builtin "BaseException.__getattribute__")))
    (x4_gg : PySem.W.findIn K (.ref E4) "__getattr__" = some none)
    (x4_eC : PySem.W.subIn K (.ref E4) (.type "BaseException") = some true)
    (x4_tC : PySem.W.typeIn K (.ref E4) = some (.type "type"))
    (x4_kC : PySem.W.keepIn K (.ref E4) = true)
    (x4_hC : PySem.W.hasDictIn K E4 = true)
    (x4_iC : PySem.W.isClsIn K E4 = true)
    (x4_cl : PySem.W.findIn K (.ref E4) "__class__" = some (some (.builtin "object.__class__")))
    (x4_mr : PySem.W.mroIn K E4 (.type "object") = some true)
    (x4_i : PySem.W.findIn K (.ref E4) "__init__" = some (some (.ref fe4)))
    (x4_t : PySem.W.typeIn K (.ref fe4) = some (.type "function"))
    (x4_li : K.lookup fe4 = some ⟨oce4, ode4, .func (PySem.W.fnOf "__init__" "NoSuch.__init__" (defArgs (inClass (topS 6) 0)) (defBody (inClass (topS 6) 0)) (defScope (inClass (topS 6) 0)) .none kVe4 dce4 pme4 ane4 cde4 cte4), sle4⟩)
    (x4_ci : PySem.W.codeIn K cde4 "NoSuch.__init__" = true)
    (x4_ki : PySem.W.keepIn K (.ref fe4) = true)
    (x4_f_word : PySem.W.findIn K (.ref E4) "word" = some none)
    (x4_f_name : PySem.W.findIn K (.ref E4) "name" = some none)
    (x4_self : PySem.W.subIn K (.ref E4) (.ref E4) = some true)
    (x4_s_AskError : PySem.W.subIn K (.ref E4) (.ref E5) = some true)
    (x4_s_CallError : PySem.W.subIn K (.ref E4) (.ref E2) = some false)
    (x4_s_DataError : PySem.W.subIn K (.ref E4) (.ref E1) = some false)
    (x4_s_NoSuch : PySem.W.subIn K (.ref E4) (.ref E4) = some true)
    (x4_s_SaidError : PySem.W.subIn K (.ref E4) (.ref E0) = some true)
    (x4_s_TextError : PySem.W.subIn K (.ref E4) (.ref E3) = some false)
    (oc1 : PySem.W.specialIn K (.builtin "object.__class__") "__get__" = some (some (.builtin "getset_descriptor.__get__")))
    (oc2 : PySem.W.takesIn K (.builtin "object.__class__") = some true)
    : ∃ fd : FuncData, (∀ (s : Shared) (v : Value), BindsTo s fd ⟨[v], []⟩ [("script", v)]) ∧ ∀ base : Heap, K.In base → base.Ns mainGlobals mg → FnOk l.prog w K mg base (L2.CX l.prog w) 12 fa fd ["script"] (spLaw K) := by
  have e := hfa.symm.trans (PySem.W.mg_of X G a36)
  cases e
  have T : Txt K mg := {
    t_is_number := fnAt_mk X G (fun _ _ _ _ _ _ us hl => match us, hl with | [_], _ => rfl) a0 l0 c0 k0
    t_check_stretch := fnAt_mk X G (fun _ _ _ _ _ _ us hl => match us, hl with | [_, _], _ => rfl) a1 l1 c1 k1
    t_is_turning := fnAt_mk X G (fun _ _ _ _ _ _ us hl => match us, hl with | [_], _ => rfl) a2 l2 c2 k2
    t__heard_by := fnAt_mk X G (fun _ _ _ _ _ _ us hl => match us, hl with | [_, _, _, _], _ => rfl) a3 l3 c3 k3
    t_is_heard := fnAt_mk X G (fun _ _ _ _ _ _ us hl => match us, hl with | [_, _], _ => rfl) a4 l4 c4 k4
    t_reach_table := fnAt_mk X G (fun _ _ _ _ _ _ us hl => match us, hl with | [_], _ => rfl) a5 l5 c5 k5
    t_greedy_cuts := fnAt_mk X G (fun _ _ _ _ _ _ us hl => match us, hl with | [_], _ => rfl) a6 l6 c6 k6
    t_fewest_count := fnAt_mk X G (fun _ _ _ _ _ _ us hl => match us, hl with | [_], _ => rfl) a7 l7 c7 k7
    t_piece_count := fnAt_mk X G (fun _ _ _ _ _ _ us hl => match us, hl with | [_], _ => rfl) a8 l8 c8 k8
    t__with := fnAt_mk X G (fun _ _ _ _ _ _ us hl => match us, hl with | [_, _, _], _ => rfl) a9 l9 c9 k9
    t__check_rule := fnAt_mk X G (fun _ _ _ _ _ _ us hl => match us, hl with | [_, _], _ => rfl) a10 l10 c10 k10
    t_pieces_by_most := fnAt_mk X G (fun _ _ _ _ _ _ us hl => match us, hl with | [_, _, _], _ => rfl) a11 l11 c11 k11
    t_pieces_by_wide := fnAt_mk X G (fun _ _ _ _ _ _ us hl => match us, hl with | [_, _, _], _ => rfl) a12 l12 c12 k12
    t_least_most := fnAt_mk X G (fun _ _ _ _ _ _ us hl => match us, hl with | [_, _], _ => rfl) a13 l13 c13 k13
    t_least_wide := fnAt_mk X G (fun _ _ _ _ _ _ us hl => match us, hl with | [_, _], _ => rfl) a14 l14 c14 k14
    t_widest_case := fnAt_mk X G (fun _ _ _ _ _ _ us hl => match us, hl with | [_], _ => rfl) a15 l15 c15 k15
    t_lost_by_bounds := fnAt_mk X G (fun _ _ _ _ _ _ us hl => match us, hl with | [_], _ => rfl) a16 l16 c16 k16
    t__law_well := fnAt_mk X G (fun _ _ _ _ _ _ us hl => match us, hl with | [_], _ => rfl) a17 l17 c17 k17
    t__law_pick := fnAt_mk X G (fun _ _ _ _ _ _ us hl => match us, hl with | [_, _], _ => rfl) a18 l18 c18 k18
    t__law_alike := fnAt_mk X G (fun _ _ _ _ _ _ us hl => match us, hl with | [_, _], _ => rfl) a19 l19 c19 k19
    t__law_signs := fnAt_mk X G (fun _ _ _ _ _ _ us hl => match us, hl with | [_], _ => rfl) a20 l20 c20 k20
    t__law_text := fnAt_mk X G (fun _ _ _ _ _ _ us hl => match us, hl with | [_, _, _], _ => rfl) a21 l21 c21 k21
    t__law_plain_run := fnAt_mk X G (fun _ _ _ _ _ _ us hl => match us, hl with | [_, _, _, _, _, _, _], _ => rfl) a22 l22 c22 k22
    t__law_turned_run := fnAt_mk X G (fun _ _ _ _ _ _ us hl => match us, hl with | [_, _, _, _, _, _], _ => rfl) a23 l23 c23 k23
    t__law_runs := fnAt_mk X G (fun _ _ _ _ _ _ us hl => match us, hl with | [_, _], _ => rfl) a24 l24 c24 k24
    t__law_reach := fnAt_mk X G (fun _ _ _ _ _ _ us hl => match us, hl with | [_, _, _], _ => rfl) a25 l25 c25 k25
    t__law_cuts := fnAt_mk X G (fun _ _ _ _ _ _ us hl => match us, hl with | [_], _ => rfl) a26 l26 c26 k26
    t__law_pieces := fnAt_mk X G (fun _ _ _ _ _ _ us hl => match us, hl with | [_, _, _], _ => rfl) a27 l27 c27 k27
    t__law_part := fnAt_mk X G (fun _ _ _ _ _ _ us hl => match us, hl with | [_, _, _], _ => rfl) a28 l28 c28 k28
    t__law_rule := fnAt_mk X G (fun _ _ _ _ _ _ us hl => match us, hl with | [_, _], _ => rfl) a29 l29 c29 k29
    t__law_case := fnAt_mk X G (fun _ _ _ _ _ _ us hl => match us, hl with | [_], _ => rfl) a30 l30 c30 k30
    t__law_with := fnAt_mk X G (fun _ _ _ _ _ _ us hl => match us, hl with | [_, _, _], _ => rfl) a31 l31 c31 k31
    t__law_refused := fnAt_mk X G (fun _ _ _ _ _ _ us hl => match us, hl with | [_, _, _], _ => rfl) a32 l32 c32 k32
    t__law_rule_asked := fnAt_mk X G (fun _ _ _ _ _ _ us hl => match us, hl with | [_, _, _, _], _ => rfl) a33 l33 c33 k33
    t__law_strange_asked := fnAt_mk X G (fun _ _ _ _ _ _ us hl => match us, hl with | [_, _], _ => rfl) a34 l34 c34 k34
    t__law_looked := fnAt_mk X G (fun _ _ _ _ _ _ us hl => match us, hl with | [_, _], _ => rfl) a35 l35 c35 k35
    gl_MOST_WIDE := ⟨_, PySem.W.mg_of X G gb0⟩
    c_NoSuch := ⟨_, _, _, _, PySem.W.mg_of X G e4, ⟨⟨_, _, _, _, _, _, _, _, _, _, _, _, _, _, _, x4_xL, x4_xB⟩, x4_sa, x4_eC, x4_tC, x4_kC⟩, x4_i, x4_t, (fun_mk (st := inClass (topS 6) 0) x4_li x4_ci x4_ki).binds (fun _ _ _ _ _ _ us hl => match us, hl with | [_, _, _], _ => rfl), fun_mk (st := inClass (topS 6) 0) x4_li x4_ci x4_ki, fun f hf => by
      rcases List.mem_cons.mp hf with rfl | hf
      · exact x4_f_word
      rcases List.mem_cons.mp hf with rfl | hf
      · exact x4_f_name
      exact absurd hf List.not_mem_nil⟩
    q__law_refused := fun p hp => by
      rcases List.mem_cons.mp hp with rfl | hp
      · refine ⟨⟨_, .inl (PySem.W.mg_of X G e0), fun k anc hl => ?_⟩⟩
        have hm := lookup_mem hl
        rcases List.mem_cons.mp hm with e | hm
        · cases e
          refine ⟨_, PySem.W.mg_of X G e4, ⟨x4_ga, x4_gg, x4_eC, x4_hC⟩, ⟨x4_iC, x4_cl, oc1, oc2, x4_mr⟩, (exm_own d0_b d0_c d0_t x4_s_SaidError).trans (congrArg some (by decide +kernel)), fun n hn => ?_, fun f hf => ?_⟩
          · repeat (rcases List.mem_cons.mp hn with rfl | hn; first | exact ⟨_, _, .inl (PySem.W.mg_of X G e1), .own _, rfl, (kit_own d1_c d1_t x4_s_DataError x4_self).trans (congrArg some (by decide +kernel))⟩ | exact ⟨_, _, .inl (PySem.W.mg_of X G e2), .own _, rfl, (kit_own d2_c d2_t x4_s_CallError x4_self).trans (congrArg some (by decide +kernel))⟩ | exact ⟨_, _, .inl (PySem.W.mg_of X G e3), .own _, rfl, (kit_own d3_c d3_t x4_s_TextError x4_self).trans (congrArg some (by decide +kernel))⟩ | exact ⟨_, _, .inl (PySem.W.mg_of X G e4), .own _, rfl, (kit_own d4_c d4_t x4_s_NoSuch x4_self).trans (congrArg some (by decide +kernel))⟩ | exact ⟨_, _, .inl (PySem.W.mg_of X G e5), .own _, rfl, (kit_own d5_c d5_t x4_s_AskError x4_self).trans (congrArg some (by decide +kernel))⟩)
            exact absurd hn List.not_mem_nil
          · repeat (rcases List.mem_cons.mp hf with rfl | hf; first | exact x4_f_word | exact x4_f_name)
            exact absurd hf List.not_mem_nil
        exact absurd hm List.not_mem_nil
      exact absurd hp List.not_mem_nil
    z := fun x hx => by
      rcases List.mem_cons.mp hx with rfl | hx
      · exact PySem.W.mg_none_of X G z0
      rcases List.mem_cons.mp hx with rfl | hx
      · exact PySem.W.mg_none_of X G z1
      rcases List.mem_cons.mp hx with rfl | hx
      · exact PySem.W.mg_none_of X G z2
      rcases List.mem_cons.mp hx with rfl | hx
      · exact PySem.W.mg_none_of X G z3
      rcases List.mem_cons.mp hx with rfl | hx
      · exact PySem.W.mg_none_of X G z4
      rcases List.mem_cons.mp hx with rfl | hx
      · exact PySem.W.mg_none_of X G z5
      rcases List.mem_cons.mp hx with rfl | hx
      · exact PySem.W.mg_none_of X G z6
      rcases List.mem_cons.mp hx with rfl | hx
      · exact PySem.W.mg_none_of X G z7
      rcases List.mem_cons.mp hx with rfl | hx
      · exact PySem.W.mg_none_of X G z8
      rcases List.mem_cons.mp hx with rfl | hx
      · exact PySem.W.mg_none_of X G z9
      rcases List.mem_cons.mp hx with rfl | hx
      · exact PySem.W.mg_none_of X G z10
      rcases List.mem_cons.mp hx with rfl | hx
      · exact PySem.W.mg_none_of X G z11
      rcases List.mem_cons.mp hx with rfl | hx
      · exact PySem.W.mg_none_of X G z12
      rcases List.mem_cons.mp hx with rfl | hx
      · exact PySem.W.mg_none_of X G z13
      rcases List.mem_cons.mp hx with rfl | hx
      · exact PySem.W.mg_none_of X G z14
      rcases List.mem_cons.mp hx with rfl | hx
      · exact PySem.W.mg_none_of X G z15
      rcases List.mem_cons.mp hx with rfl | hx
      · exact PySem.W.mg_none_of X G z16
      rcases List.mem_cons.mp hx with rfl | hx
      · exact PySem.W.mg_none_of X G z17
      rcases List.mem_cons.mp hx with rfl | hx
      · exact PySem.W.mg_none_of X G z18
      exact absurd hx List.not_mem_nil }
  have F := fun_mk (st := topS 50) l36 c36 k36
  exact ⟨_, fun s v => .of_eq rfl, fun base _ _ => ok_law L F T⟩
end K86
open PySem PySem.W PyProof.Rows
set_option maxRecDepth 100000 in
set_option maxHeartbeats 0 in
theorem PySem.Challenge.cw_saidbefore_k86_whole_bounds_holds : PySem.Challenge.rw_saidbefore_k86_whole_bounds.Holds := by
  w_on; o_law; k_head; (case hw => w_witness2)
  k_fill
  refine L2.walk_of (l := PySem.Challenge.rw_saidbefore_k86_whole_bounds) (n := 63) (k := 12) (x := "script") (CX := fun w => L2.CX PySem.Challenge.rw_saidbefore_k86_whole_bounds.prog w) (sp := fun w => K86.spLaw _) rfl (by decide) rfl ⟨rfl, by decide, by decide⟩ (fun w h Y => PySem.W.kIn_of Y) ?F (fun _ _ a ns hl _ hS => ⟨a, ns, rfl, hS, hl, fun _ => rfl⟩) (fun _ _ _ _ _ h => K86.cx_false h)
  case F =>
    intro w mg fa h KX G hmg
    refine' K86.all_mk K86.law_true KX G hmg ?a0 ?l0 ?c0 ?k0 ?a1 ?l1 ?c1 ?k1 ?a2 ?l2 ?c2 ?k2 ?a3 ?l3 ?c3 ?k3 ?a4 ?l4 ?c4 ?k4 ?a5 ?l5 ?c5 ?k5 ?a6 ?l6 ?c6 ?k6 ?a7 ?l7 ?c7 ?k7 ?a8 ?l8 ?c8 ?k8 ?a9 ?l9 ?c9 ?k9 ?a10 ?l10 ?c10 ?k10 ?a11 ?l11 ?c11 ?k11 ?a12 ?l12 ?c12 ?k12 ?a13 ?l13 ?c13 ?k13 ?a14 ?l14 ?c14 ?k14 ?a15 ?l15 ?c15 ?k15 ?a16 ?l16 ?c16 ?k16 ?a17 ?l17 ?c17 ?k17 ?a18 ?l18 ?c18 ?k18 ?a19 ?l19 ?c19 ?k19 ?a20 ?l20 ?c20 ?k20 ?a21 ?l21 ?c21 ?k21 ?a22 ?l22 ?c22 ?k22 ?a23 ?l23 ?c23 ?k23 ?a24 ?l24 ?c24 ?k24 ?a25 ?l25 ?c25 ?k25 ?a26 ?l26 ?c26 ?k26 ?a27 ?l27 ?c27 ?k27 ?a28 ?l28 ?c28 ?k28 ?a29 ?l29 ?c29 ?k29 ?a30 ?l30 ?c30 ?k30 ?a31 ?l31 ?c31 ?k31 ?a32 ?l32 ?c32 ?k32 ?a33 ?l33 ?c33 ?k33 ?a34 ?l34 ?c34 ?k34 ?a35 ?l35 ?c35 ?k35 ?a36 ?l36 ?c36 ?k36 ?z0 ?z1 ?z2 ?z3 ?z4 ?z5 ?z6 ?z7 ?z8 ?z9 ?z10 ?z11 ?z12 ?z13 ?z14 ?z15 ?z16 ?z17 ?z18 ?gb0 ?e0 ?d0_c ?d0_t ?d0_b ?e1 ?d1_c ?d1_t ?d1_b ?e2 ?d2_c ?d2_t ?d2_b ?e3 ?d3_c ?d3_t ?d3_b ?e4 ?d4_c ?d4_t ?d4_b ?e5 ?d5_c ?d5_t ?d5_b ?x4_xL ?x4_xB ?x4_sa ?x4_ga ?x4_gg ?x4_eC ?x4_tC ?x4_kC ?x4_hC ?x4_iC ?x4_cl ?x4_mr ?x4_i ?x4_t ?x4_li ?x4_ci ?x4_ki ?x4_f_word ?x4_f_name ?x4_self ?x4_s_AskError ?x4_s_CallError ?x4_s_DataError ?x4_s_NoSuch ?x4_s_SaidError ?x4_s_TextError ?oc1 ?oc2
    (case a0 => k_is)
    (case l0 => k_is)
    (case c0 => k_is)
    (case k0 => k_is)
    (case a1 => k_is)
    (case l1 => k_is)
    (case c1 => k_is)
    (case k1 => k_is)
    (case a2 => k_is)
    (case l2 => k_is)
    (case c2 => k_is)
    (case k2 => k_is)
    (case a3 => k_is)
    (case l3 => k_is)
    (case c3 => k_is)
    (case k3 => k_is)
    (case a4 => k_is)
    (case l4 => k_is)
    (case c4 => k_is)
    (case k4 => k_is)
    (case a5 => k_is)
    (case l5 => k_is)
    (case c5 => k_is)
    (case k5 => k_is)
    (case a6 => k_is)
    (case l6 => k_is)
    (case c6 => k_is)
    (case k6 => k_is)
    (case a7 => k_is)
    (case l7 => k_is)
    (case c7 => k_is)
    (case k7 => k_is)
    (case a8 => k_is)
    (case l8 => k_is)
    (case c8 => k_is)
    (case k8 => k_is)
    (case a9 => k_is)
    (case l9 => k_is)
    (case c9 => k_is)
    (case k9 => k_is)
    (case a10 => k_is)
    (case l10 => k_is)
    (case c10 => k_is)
    (case k10 => k_is)
    (case a11 => k_is)
    (case l11 => k_is)
    (case c11 => k_is)
    (case k11 => k_is)
    (case a12 => k_is)
    (case l12 => k_is)
    (case c12 => k_is)
    (case k12 => k_is)
    (case a13 => k_is)
    (case l13 => k_is)
    (case c13 => k_is)
    (case k13 => k_is)
    (case a14 => k_is)
    (case l14 => k_is)
    (case c14 => k_is)
    (case k14 => k_is)
    (case a15 => k_is)
    (case l15 => k_is)
    (case c15 => k_is)
    (case k15 => k_is)
    (case a16 => k_is)
    (case l16 => k_is)
    (case c16 => k_is)
    (case k16 => k_is)
    (case a17 => k_is)
    (case l17 => k_is)
    (case c17 => k_is)
    (case k17 => k_is)
    (case a18 => k_is)
    (case l18 => k_is)
    (case c18 => k_is)
    (case k18 => k_is)
    (case a19 => k_is)
    (case l19 => k_is)
    (case c19 => k_is)
    (case k19 => k_is)
    (case a20 => k_is)
    (case l20 => k_is)
    (case c20 => k_is)
    (case k20 => k_is)
    (case a21 => k_is)
    (case l21 => k_is)
    (case c21 => k_is)
    (case k21 => k_is)
    (case a22 => k_is)
    (case l22 => k_is)
    (case c22 => k_is)
    (case k22 => k_is)
    (case a23 => k_is)
    (case l23 => k_is)
    (case c23 => k_is)
    (case k23 => k_is)
    (case a24 => k_is)
    (case l24 => k_is)
    (case c24 => k_is)
    (case k24 => k_is)
    (case a25 => k_is)
    (case l25 => k_is)
    (case c25 => k_is)
    (case k25 => k_is)
    (case a26 => k_is)
    (case l26 => k_is)
    (case c26 => k_is)
    (case k26 => k_is)
    (case a27 => k_is)
    (case l27 => k_is)
    (case c27 => k_is)
    (case k27 => k_is)
    (case a28 => k_is)
    (case l28 => k_is)
    (case c28 => k_is)
    (case k28 => k_is)
    (case a29 => k_is)
    (case l29 => k_is)
    (case c29 => k_is)
    (case k29 => k_is)
    (case a30 => k_is)
    (case l30 => k_is)
    (case c30 => k_is)
    (case k30 => k_is)
    (case a31 => k_is)
    (case l31 => k_is)
    (case c31 => k_is)
    (case k31 => k_is)
    (case a32 => k_is)
    (case l32 => k_is)
    (case c32 => k_is)
    (case k32 => k_is)
    (case a33 => k_is)
    (case l33 => k_is)
    (case c33 => k_is)
    (case k33 => k_is)
    (case a34 => k_is)
    (case l34 => k_is)
    (case c34 => k_is)
    (case k34 => k_is)
    (case a35 => k_is)
    (case l35 => k_is)
    (case c35 => k_is)
    (case k35 => k_is)
    (case a36 => k_is)
    (case l36 => k_is)
    (case c36 => k_is)
    (case k36 => k_is)
    (case z0 => k_is)
    (case z1 => k_is)
    (case z2 => k_is)
    (case z3 => k_is)
    (case z4 => k_is)
    (case z5 => k_is)
    (case z6 => k_is)
    (case z7 => k_is)
    (case z8 => k_is)
    (case z9 => k_is)
    (case z10 => k_is)
    (case z11 => k_is)
    (case z12 => k_is)
    (case z13 => k_is)
    (case z14 => k_is)
    (case z15 => k_is)
    (case z16 => k_is)
    (case z17 => k_is)
    (case z18 => k_is)
    (case gb0 => k_is)
    (case e0 => k_is)
    (case d0_c => k_is)
    (case d0_t => k_is)
    (case d0_b => k_is)
    (case e1 => k_is)
    (case d1_c => k_is)
    (case d1_t => k_is)
    (case d1_b => k_is)
    (case e2 => k_is)
    (case d2_c => k_is)
    (case d2_t => k_is)
    (case d2_b => k_is)
    (case e3 => k_is)
    (case d3_c => k_is)
    (case d3_t => k_is)
    (case d3_b => k_is)
    (case e4 => k_is)
    (case d4_c => k_is)
    (case d4_t => k_is)
    (case d4_b => k_is)
    (case e5 => k_is)
    (case d5_c => k_is)
    (case d5_t => k_is)
    (case d5_b => k_is)
    (case x4_xL => k_is)
    (case x4_xB => decide +kernel)
    (case x4_sa => k_is)
    (case x4_ga => k_is)
    (case x4_gg => k_is)
    (case x4_eC => k_is)
    (case x4_tC => k_is)
    (case x4_kC => k_is)
    (case x4_hC => k_is)
    (case x4_iC => k_is)
    (case x4_cl => k_is)
    (case x4_mr => k_is)
    (case x4_i => k_is)
    (case x4_t => k_is)
    (case x4_li => k_is)
    (case x4_ci => k_is)
    (case x4_ki => k_is)
    (case x4_f_word => k_is)
    (case x4_f_name => k_is)
    (case x4_self => k_is)
    (case x4_s_AskError => k_is)
    (case x4_s_CallError => k_is)
    (case x4_s_DataError => k_is)
    (case x4_s_NoSuch => k_is)
    (case x4_s_SaidError => k_is)
    (case x4_s_TextError => k_is)
    (case oc1 => k_is)
    (case oc2 => k_is)
